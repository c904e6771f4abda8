import PyProof.Rows.All
import Wide.All
import OpenK.AllK
import Wide.FinOn
import KE.KStateDown
import Lean
import HandS.Base
import HandS.Call
import HandS.Ends
import HandS.More
import HandS.Words
import HandS.WordsExc
import HandS.Defaults
import HandS.Head0
import HandS.Head1
import HandS.Head2
import HandS.HeadEnd
import HandS.HeadHook1
import HandS.HeadHook2
import HandS.ForMost
import HandS.IsInst
import HandS.TupAny
import HandS.Style
import HandS.Exc
import HandS.Wide
import HandS.FStr
import HandS.EndBits
import HandS.NoneIn
import HandS.SortInts
import HandS.Zip
import PyProof.Rows.SortShellAny
import PySem.Challenge.RW_treewalks_k32_orders_counted
set_option Elab.async false
set_option linter.all false
set_option maxRecDepth 100000
set_option maxHeartbeats 4000000
namespace Dz
open PySem PySem.Spec PyProof.Rows L2

/-! deep values: what never changes is carried whole; what may change is an address -/
inductive D where
  | non | bl (b : Bool) | int (i : Int) | str (x : Str) | tup (ws : List D) | lst (ws : List D) | dic (ks : List Key) (ws : List D) | ref (a : Addr) | ty (n : String)
deriving Inhabited

/-- the locked part of an abstract heap -/
def fz (H : Hp) : Hp := fun b => match H b with
  | some (.frz o u) => some (.frz o u)
  | _ => none
theorem fz_some {H : Hp} {b : Addr} {z : HO} (h : fz H b = some z) : ∃ o u, z = .frz o u ∧ H b = some (.frz o u) := by
  unfold fz at h
  split at h
  · rename_i o u e
    cases h
    exact ⟨o, u, rfl, e⟩
  · cases h
theorem fz_frz {H : Hp} {b : Addr} {o : Obj} {u : HO} (h : H b = some (.frz o u)) : fz H b = some (.frz o u) := by
  unfold fz; rw [h]
abbrev FzL (K : PySem.W.Frag) (H : Hp) (a : Addr) (vs : List V) : Prop := SqL K (fz H) a vs
theorem FzL.sq {K : PySem.W.Frag} {H : Hp} {a : Addr} {vs : List V} (h : FzL K H a vs) : SqL K H a vs := by
  rcases h with (h | ⟨o, h⟩) | h
  · obtain ⟨_, _, e, _⟩ := fz_some h
    cases e
  · obtain ⟨_, _, e, q⟩ := fz_some h
    cases e
    exact .inl (.inr ⟨_, q⟩)
  · exact .inr h

mutual
def Rep (K : PySem.W.Frag) (H : Hp) : D → V → Prop
  | .non, v => v = .non
  | .bl b, v => v = .bl b
  | .int i, v => v = .int i
  | .str x, v => v = .str x
  | .tup ws, v => ∃ a vs, v = .ref a ∧ SqT K H a vs ∧ Reps K H ws vs
  | .lst ws, v => ∃ a vs, v = .ref a ∧ FzL K H a vs ∧ Reps K H ws vs
  | .dic ks ws, v => ∃ a vs o, v = .ref a ∧ H a = some (.frz o (.dK (ks.zip vs))) ∧ ks.length = vs.length ∧ Reps K H ws vs
  | .ref a, v => v = .ref a
  | .ty n, v => v = .ty n
def Reps (K : PySem.W.Frag) (H : Hp) : List D → List V → Prop
  | [], vs => vs = []
  | w :: ws, vs => ∃ v r, vs = v :: r ∧ Rep K H w v ∧ Reps K H ws r
end

/-- what no run changes -/
structure Ext (H H' : Hp) : Prop where
  tups : ∀ b xs, H b = some (.tup xs) → H' b = some (.tup xs)
  frzs : ∀ b o u, H b = some (.frz o u) → H' b = some (.frz o u)
theorem Ext.refl (H : Hp) : Ext H H := ⟨fun _ _ h => h, fun _ _ _ h => h⟩
theorem Ext.trans {H H1 H2 : Hp} (a : Ext H H1) (b : Ext H1 H2) : Ext H H2 := ⟨fun c xs h => b.tups c xs (a.tups c xs h), fun c o u h => b.frzs c o u (a.frzs c o u h)⟩
theorem Ext.new {H : Hp} {p : Addr} {o : HO} (h : H p = none) : Ext H (upd H p o) :=
  ⟨fun b xs e => by rw [upd_ne (ne_of_none e h)]; exact e, fun b ob u e => by rw [upd_ne (ne_of_none e h)]; exact e⟩
theorem Ext.put {H : Hp} {p : Addr} {o : HO} (h : Mut (H p)) : Ext H (upd H p o) :=
  ⟨fun b xs e => by rw [upd_ne (fun z => by subst z; rw [e] at h; exact h)]; exact e, fun b ob u e => by rw [upd_ne (fun z => by subst z; rw [e] at h; exact h)]; exact e⟩
theorem Ext.sqT {K : PySem.W.Frag} {H H' : Hp} {a : Addr} {vs : List V} (e : Ext H H') (h : SqT K H a vs) : SqT K H' a vs := by
  rcases h with (h | ⟨o, h⟩) | h
  · exact .inl (.inl (e.tups _ _ h))
  · exact .inl (.inr ⟨o, e.frzs _ _ _ h⟩)
  · exact .inr h
theorem Ext.fzL {K : PySem.W.Frag} {H H' : Hp} {a : Addr} {vs : List V} (e : Ext H H') (h : FzL K H a vs) : FzL K H' a vs := by
  rcases h with (h | ⟨o, h⟩) | h
  · obtain ⟨_, _, z, _⟩ := fz_some h
    cases z
  · obtain ⟨_, _, z, q⟩ := fz_some h
    cases z
    exact .inl (.inr ⟨_, fz_frz (e.frzs _ _ _ q)⟩)
  · exact .inr h
mutual
theorem Rep.ext {K : PySem.W.Frag} {H H' : Hp} (e : Ext H H') : ∀ (w : D) (v : V), Rep K H w v → Rep K H' w v
  | .non, v, h => h
  | .bl b, v, h => h
  | .int i, v, h => h
  | .str x, v, h => h
  | .tup ws, v, h => by
    obtain ⟨a, vs, h1, h2, h3⟩ := h
    exact ⟨a, vs, h1, e.sqT h2, Reps.ext e ws vs h3⟩
  | .lst ws, v, h => by
    obtain ⟨a, vs, h1, h2, h3⟩ := h
    exact ⟨a, vs, h1, e.fzL h2, Reps.ext e ws vs h3⟩
  | .dic ks ws, v, h => by
    obtain ⟨a, vs, o, h1, h2, h4, h3⟩ := h
    exact ⟨a, vs, o, h1, e.frzs _ _ _ h2, h4, Reps.ext e ws vs h3⟩
  | .ref a, v, h => h
  | .ty n, v, h => h
theorem Reps.ext {K : PySem.W.Frag} {H H' : Hp} (e : Ext H H') : ∀ (ws : List D) (vs : List V), Reps K H ws vs → Reps K H' ws vs
  | [], vs, h => h
  | w :: ws, vs, h => by
    obtain ⟨v, r, h1, h2, h3⟩ := h
    exact ⟨v, r, h1, Rep.ext e w v h2, Reps.ext e ws r h3⟩
end
theorem Reps.len {K : PySem.W.Frag} {H : Hp} : ∀ {ws : List D} {vs : List V}, Reps K H ws vs → ws.length = vs.length
  | [], vs, h => by cases (show vs = [] from h); rfl
  | w :: ws, vs, h => by
    obtain ⟨v, r, rfl, _, h3⟩ := h
    rw [List.length_cons, List.length_cons, Reps.len h3]
theorem Reps.get {K : PySem.W.Frag} {H : Hp} : ∀ {ws : List D} {vs : List V} {i : Nat} {w : D}, Reps K H ws vs → ws[i]? = some w → ∃ v, vs[i]? = some v ∧ Rep K H w v
  | [], vs, i, w, h, e => by simp at e
  | x :: ws, vs, 0, w, h, e => by
    obtain ⟨v, r, rfl, h2, h3⟩ := h
    simp at e; subst e
    exact ⟨v, rfl, h2⟩
  | x :: ws, vs, i + 1, w, h, e => by
    obtain ⟨v, r, rfl, h2, h3⟩ := h
    obtain ⟨v', e1, e2⟩ := Reps.get (i := i) (w := w) h3 (by simpa using e)
    exact ⟨v', by simpa using e1, e2⟩
theorem Reps.getV {K : PySem.W.Frag} {H : Hp} : ∀ {ws : List D} {vs : List V} {i : Nat} {v : V}, Reps K H ws vs → vs[i]? = some v → ∃ w, ws[i]? = some w ∧ Rep K H w v := fun {ws vs i v} h e => by
  have hi : i < vs.length := (List.getElem?_eq_some_iff.mp e).1
  have hj : i < ws.length := by rw [h.len]; exact hi
  obtain ⟨v', e1, e2⟩ := h.get (i := i) (w := ws[i]) (by simp [hj])
  rw [e] at e1
  cases e1
  exact ⟨ws[i], by simp [hj], e2⟩
theorem Reps.append {K : PySem.W.Frag} {H : Hp} : ∀ {ws us : List D} {vs rs : List V}, Reps K H ws vs → Reps K H us rs → Reps K H (ws ++ us) (vs ++ rs)
  | [], us, vs, rs, h, g => by cases (show vs = [] from h); exact g
  | w :: ws, us, vs, rs, h, g => by
    obtain ⟨v, r, rfl, h2, h3⟩ := h
    exact ⟨v, r ++ rs, rfl, h2, Reps.append h3 g⟩
theorem Reps.take {K : PySem.W.Frag} {H : Hp} : ∀ {ws : List D} {vs : List V} (n : Nat), Reps K H ws vs → Reps K H (ws.take n) (vs.take n)
  | [], vs, n, h => by cases (show vs = [] from h); simp [Reps]
  | w :: ws, vs, 0, h => by simp [Reps]
  | w :: ws, vs, n + 1, h => by
    obtain ⟨v, r, rfl, h2, h3⟩ := h
    exact ⟨v, r.take n, rfl, h2, Reps.take n h3⟩
theorem Reps.drop {K : PySem.W.Frag} {H : Hp} : ∀ {ws : List D} {vs : List V} (n : Nat), Reps K H ws vs → Reps K H (ws.drop n) (vs.drop n)
  | [], vs, n, h => by cases (show vs = [] from h); simp [Reps]
  | w :: ws, vs, 0, h => h
  | w :: ws, vs, n + 1, h => by
    obtain ⟨v, r, rfl, h2, h3⟩ := h
    exact Reps.drop (ws := ws) (vs := r) n h3
theorem Reps.set {K : PySem.W.Frag} {H : Hp} {w : D} {v : V} (q : Rep K H w v) : ∀ {ws : List D} {vs : List V} (n : Nat), Reps K H ws vs → Reps K H (ws.set n w) (vs.set n v)
  | [], vs, n, h => by cases (show vs = [] from h); exact h
  | x :: ws, vs, 0, h => by
    obtain ⟨y, r, rfl, h2, h3⟩ := h
    exact ⟨v, r, rfl, q, h3⟩
  | x :: ws, vs, n + 1, h => by
    obtain ⟨y, r, rfl, h2, h3⟩ := h
    exact ⟨y, r.set n v, rfl, h2, Reps.set q n h3⟩
theorem Reps.erase {K : PySem.W.Frag} {H : Hp} : ∀ {ws : List D} {vs : List V} (n : Nat), Reps K H ws vs → Reps K H (ws.eraseIdx n) (vs.eraseIdx n)
  | [], vs, n, h => by cases (show vs = [] from h); exact h
  | x :: ws, vs, 0, h => by
    obtain ⟨y, r, rfl, h2, h3⟩ := h
    exact h3
  | x :: ws, vs, n + 1, h => by
    obtain ⟨y, r, rfl, h2, h3⟩ := h
    exact ⟨y, r.eraseIdx n, rfl, h2, Reps.erase n h3⟩
theorem Reps.reverse {K : PySem.W.Frag} {H : Hp} : ∀ {ws : List D} {vs : List V}, Reps K H ws vs → Reps K H ws.reverse vs.reverse
  | [], vs, h => by cases (show vs = [] from h); exact h
  | x :: ws, vs, h => by
    obtain ⟨y, r, rfl, h2, h3⟩ := h
    rw [List.reverse_cons, List.reverse_cons]
    exact Reps.append (Reps.reverse h3) ⟨y, [], rfl, h2, rfl⟩
theorem Reps.ints {K : PySem.W.Frag} {H : Hp} : ∀ {ns : List Int} {vs : List V}, Reps K H (ns.map D.int) vs → vs = ns.map V.int
  | [], vs, h => h
  | n :: ns, vs, h => by
    obtain ⟨y, r, rfl, h2, h3⟩ := h
    rw [Reps.ints (ns := ns) h3, (show y = V.int n from h2)]; rfl
theorem Reps.ofInts {K : PySem.W.Frag} {H : Hp} : ∀ {ns : List Int}, Reps K H (ns.map D.int) (ns.map V.int)
  | [] => rfl
  | n :: ns => ⟨.int n, ns.map V.int, rfl, rfl, Reps.ofInts⟩
theorem Reps.strs {K : PySem.W.Frag} {H : Hp} : ∀ {ns : List Str} {vs : List V}, Reps K H (ns.map D.str) vs → vs = ns.map V.str
  | [], vs, h => h
  | n :: ns, vs, h => by
    obtain ⟨y, r, rfl, h2, h3⟩ := h
    rw [Reps.strs (ns := ns) h3, (show y = V.str n from h2)]; rfl
theorem Reps.ofStrs {K : PySem.W.Frag} {H : Hp} : ∀ {ns : List Str}, Reps K H (ns.map D.str) (ns.map V.str)
  | [] => rfl
  | n :: ns => ⟨.str n, ns.map V.str, rfl, rfl, Reps.ofStrs⟩
theorem Reps.bls {K : PySem.W.Frag} {H : Hp} : ∀ {ns : List Bool} {vs : List V}, Reps K H (ns.map D.bl) vs → vs = ns.map V.bl
  | [], vs, h => h
  | n :: ns, vs, h => by
    obtain ⟨y, r, rfl, h2, h3⟩ := h
    rw [Reps.bls (ns := ns) h3, (show y = V.bl n from h2)]; rfl

/-! what may change: lists, dicts, instances, and one box of ints and private lists of ints -/
abbrev Bx := List (Sum Int (List Int))
inductive MO where
  | lst (ws : List D) | dic (ks : List Key) (ws : List D) | ins (C : Addr) (ns : List Str) (ws : List D) | box (I : Nat → Bx → Prop)
abbrev Mm := Addr → Option MO
structure Sg where
  M : Mm
  n : Nat
  pv : List Addr
def Mm.put (M : Mm) (a : Addr) (o : MO) : Mm := fun b => if b = a then some o else M b
def Mm.del (M : Mm) (a : Addr) : Mm := fun b => if b = a then none else M b
@[simp] theorem Mm.put_same {M : Mm} {a : Addr} {o : MO} : M.put a o a = some o := by simp [Mm.put]
theorem Mm.put_ne {M : Mm} {a b : Addr} {o : MO} (h : b ≠ a) : M.put a o b = M b := by simp [Mm.put, h]
@[simp] theorem Mm.del_same {M : Mm} {a : Addr} : M.del a a = none := by simp [Mm.del]
theorem Mm.del_ne {M : Mm} {a b : Addr} (h : b ≠ a) : M.del a b = M b := by simp [Mm.del, h]
@[simp] theorem Mm.put_put {M : Mm} {a : Addr} {o o' : MO} : (M.put a o).put a o' = M.put a o' := by
  funext b; unfold Mm.put; split <;> rfl
theorem Mm.del_put {M : Mm} {a : Addr} {o : MO} (h : M a = none) : (M.put a o).del a = M := by
  funext b; unfold Mm.put Mm.del
  by_cases e : b = a
  · subst e; simp [h]
  · simp [e]
def Sg.put (s : Sg) (a : Addr) (o : MO) : Sg := { s with M := s.M.put a o }
def Sg.del (s : Sg) (a : Addr) : Sg := { s with M := s.M.del a }
@[simp] theorem Sg.put_M {s : Sg} {a : Addr} {o : MO} : (s.put a o).M = s.M.put a o := rfl
@[simp] theorem Sg.del_M {s : Sg} {a : Addr} : (s.del a).M = s.M.del a := rfl
@[simp] theorem Sg.put_n {s : Sg} {a : Addr} {o : MO} : (s.put a o).n = s.n := rfl
@[simp] theorem Sg.del_n {s : Sg} {a : Addr} : (s.del a).n = s.n := rfl
@[simp] theorem Sg.put_pv {s : Sg} {a : Addr} {o : MO} : (s.put a o).pv = s.pv := rfl
@[simp] theorem Sg.del_pv {s : Sg} {a : Addr} : (s.del a).pv = s.pv := rfl
@[simp] theorem Sg.put_put {s : Sg} {a : Addr} {o o' : MO} : (s.put a o).put a o' = s.put a o' := by
  obtain ⟨M, n, pv⟩ := s
  show Sg.mk ((M.put a o).put a o') n pv = _
  rw [Mm.put_put]; rfl
theorem sg_del_put {s : Sg} {p : Addr} {o : MO} (h : s.M p = none) : (s.put p o).del p = s := by
  obtain ⟨M, n, pv⟩ := s
  show Sg.mk ((M.put p o).del p) n pv = _
  rw [Mm.del_put h]
/-- a box's content: ints, and private lists at the addresses pv -/
def BxAt (H : Hp) : Bx → List V → List Addr → Prop
  | [], vs, as => vs = [] ∧ as = []
  | .inl i :: r, vs, as => ∃ vs', vs = .int i :: vs' ∧ BxAt H r vs' as
  | .inr ns :: r, vs, as => ∃ a vs' as', vs = .ref a :: vs' ∧ as = a :: as' ∧ H a = some (.lst (ns.map V.int)) ∧ BxAt H r vs' as'
def ORep (K : PySem.W.Frag) (H : Hp) (s : Sg) (a : Addr) : MO → Prop
  | .lst ws => ∃ vs, H a = some (.lst vs) ∧ Reps K H ws vs
  | .dic ks ws => ∃ vs, H a = some (.dK (ks.zip vs)) ∧ ks.length = vs.length ∧ Reps K H ws vs
  | .ins C ns ws => ∃ dx vs, H a = some (.ins C dx (ns.zip vs)) ∧ ns.length = vs.length ∧ Reps K H ws vs
  | .box I => ∃ st vs, (∃ m, s.n ≤ m ∧ I m st) ∧ H a = some (.lst vs) ∧ BxAt H st vs s.pv ∧ s.pv.Nodup
structure MRep (K : PySem.W.Frag) (H : Hp) (s : Sg) : Prop where
  at_ : ∀ a o, s.M a = some o → ORep K H s a o
  one : ∀ a b I J, s.M a = some (.box I) → s.M b = some (.box J) → a = b
  pvs : ∀ b ∈ s.pv, Mut (H b) ∧ s.M b = none
theorem ORep.mut {K : PySem.W.Frag} {H : Hp} {s : Sg} {a : Addr} {o : MO} (h : ORep K H s a o) : Mut (H a) := by
  cases o with
  | lst ws => obtain ⟨vs, e, _⟩ := h; rw [e]; trivial
  | dic ks ws => obtain ⟨vs, e, _⟩ := h; rw [e]; trivial
  | ins C ns ws => obtain ⟨dx, vs, e, _⟩ := h; rw [e]; trivial
  | box I => obtain ⟨st, vs, _, e, _⟩ := h; rw [e]; trivial
theorem MRep.free {K : PySem.W.Frag} {H : Hp} {s : Sg} (m : MRep K H s) {a : Addr} (h : H a = none) : s.M a = none := by
  cases q : s.M a with
  | none => rfl
  | some o => have := (m.at_ a o q).mut; rw [h] at this; exact this.elim
theorem MRep.npv {K : PySem.W.Frag} {H : Hp} {s : Sg} (m : MRep K H s) {a : Addr} (h : H a = none) : a ∉ s.pv := fun q => by
  have := (m.pvs a q).1; rw [h] at this; exact this
theorem BxAt.keep {H H' : Hp} : ∀ {st : Bx} {vs : List V} {as : List Addr}, BxAt H st vs as → (∀ b ∈ as, H' b = H b) → BxAt H' st vs as
  | [], vs, as, h, k => h
  | .inl i :: r, vs, as, h, k => by obtain ⟨vs', e, h'⟩ := h; exact ⟨vs', e, BxAt.keep h' k⟩
  | .inr ns :: r, vs, as, h, k => by
    obtain ⟨a, vs', as', e1, rfl, e, h'⟩ := h
    exact ⟨a, vs', as', e1, rfl, (k a List.mem_cons_self).trans e, BxAt.keep h' fun b hb => k b (List.mem_cons_of_mem _ hb)⟩
/-- the state's step: what never changes stays, and so does what is not tracked -/
structure Stp (H : Hp) (s : Sg) (H' : Hp) (s' : Sg) : Prop where
  ext : Ext H H'
  fr : ∀ b o, H b = some o → Mut (some o) → s.M b = none → b ∉ s.pv → H' b = some o ∧ s'.M b = none ∧ b ∉ s'.pv
theorem Stp.refl (H : Hp) (s : Sg) : Stp H s H s := ⟨.refl _, fun _ _ h _ h2 h3 => ⟨h, h2, h3⟩⟩
theorem Stp.trans {H H1 H2 : Hp} {s s1 s2 : Sg} (a : Stp H s H1 s1) (b : Stp H1 s1 H2 s2) : Stp H s H2 s2 :=
  ⟨a.ext.trans b.ext, fun c o h1 h2 h3 h4 => by obtain ⟨x, y, z⟩ := a.fr c o h1 h2 h3 h4; exact b.fr c o x h2 y z⟩
theorem Stp.new {H : Hp} {s : Sg} {p : Addr} {o : HO} (h : H p = none) : Stp H s (upd H p o) s :=
  ⟨.new h, fun b u h1 _ h3 h4 => ⟨by rw [upd_ne (ne_of_none h1 h)]; exact h1, h3, h4⟩⟩
/-- one object is made or written, and tracked -/
theorem Stp.put {H : Hp} {s : Sg} {p : Addr} {o : HO} {mo : MO} (h : H p = none ∨ (Mut (H p) ∧ s.M p ≠ none)) : Stp H s (upd H p o) (s.put p mo) := by
  have ne : ∀ b u, H b = some u → s.M b = none → b ≠ p := fun b u h1 h2 z => by
    subst z
    rcases h with h | h
    · rw [h] at h1; cases h1
    · exact h.2 h2
  refine ⟨?_, fun b u h1 _ h3 h4 => ⟨by rw [upd_ne (ne b u h1 h3)]; exact h1, (Mm.put_ne (ne b u h1 h3)).trans h3, h4⟩⟩
  rcases h with h | h
  · exact .new h
  · exact .put h.1
theorem Stp.del {H : Hp} {s : Sg} {p : Addr} {o : HO} (h : Mut (H p)) (h2 : s.M p ≠ none) : Stp H s (upd H p o) (s.del p) := by
  have ne : ∀ b, s.M b = none → b ≠ p := fun b h3 z => by subst z; exact h2 h3
  exact ⟨.put h, fun b u h1 _ h3 h4 => ⟨by rw [upd_ne (ne b h3)]; exact h1, (Mm.del_ne (ne b h3)).trans h3, h4⟩⟩
theorem Stp.weak {H : Hp} {s s' : Sg} (k : ∀ a o, s'.M a = some o → s.M a = some o) (kp : s'.pv = s.pv) : Stp H s H s' :=
  ⟨.refl _, fun b u h1 _ h3 h4 => by
    refine ⟨h1, ?_, by rw [kp]; exact h4⟩
    cases z : s'.M b with
    | none => rfl
    | some x => rw [k b x z] at h3; cases h3⟩
/-- nothing of what may change was touched -/
theorem MRep.ext {K : PySem.W.Frag} {H H' : Hp} {s : Sg} (m : MRep K H s) (e : Ext H H') (k : ∀ b, Mut (H b) → H' b = H b) : MRep K H' s where
  at_ := fun a o h => by
    have q := m.at_ a o h
    have ka := k a q.mut
    cases o with
    | lst ws => obtain ⟨vs, h1, h2⟩ := q; exact ⟨vs, ka.trans h1, Reps.ext e _ _ h2⟩
    | dic ks ws => obtain ⟨vs, h1, h2, h3⟩ := q; exact ⟨vs, ka.trans h1, h2, Reps.ext e _ _ h3⟩
    | ins C ns ws => obtain ⟨dx, vs, h1, h2, h3⟩ := q; exact ⟨dx, vs, ka.trans h1, h2, Reps.ext e _ _ h3⟩
    | box I =>
      obtain ⟨st, vs, h0, h1, h2, h3⟩ := q
      exact ⟨st, vs, h0, ka.trans h1, h2.keep fun b hb => k b (m.pvs b hb).1, h3⟩
  one := m.one
  pvs := fun b hb => by rw [k b (m.pvs b hb).1]; exact m.pvs b hb
/-- a new object -/
theorem MRep.new {K : PySem.W.Frag} {H : Hp} {s : Sg} {p : Addr} {o : HO} (m : MRep K H s) (h : H p = none) : MRep K (upd H p o) s :=
  m.ext (.new h) fun b z => upd_ne fun q => by subst q; rw [h] at z; exact z
/-- forget some -/
theorem MRep.weak {K : PySem.W.Frag} {H : Hp} {s s' : Sg} (m : MRep K H s) (k : ∀ a o, s'.M a = some o → s.M a = some o) (kn : s'.n ≤ s.n) (kp : s'.pv = s.pv) : MRep K H s' where
  at_ := fun a o h => by
    have q := m.at_ a o (k a o h)
    cases o with
    | lst ws => exact q
    | dic ks ws => exact q
    | ins C ns ws => exact q
    | box I =>
      obtain ⟨st, vs, ⟨m0, hm, hI⟩, h1, h2, h3⟩ := q
      exact ⟨st, vs, ⟨m0, Nat.le_trans kn hm, hI⟩, h1, by rw [kp]; exact h2, by rw [kp]; exact h3⟩
  one := fun a b I J h1 h2 => m.one a b I J (k _ _ h1) (k _ _ h2)
  pvs := fun b hb => by
    rw [kp] at hb
    refine ⟨(m.pvs b hb).1, ?_⟩
    cases z : s'.M b with
    | none => rfl
    | some u => exact absurd (k b u z) (by rw [(m.pvs b hb).2]; simp)
/-- write a tracked object, or track a new one -/
theorem MRep.write {K : PySem.W.Frag} {H : Hp} {s : Sg} {p : Addr} {o : HO} {mo : MO} (m : MRep K H s) (h : H p = none ∨ ∃ u, s.M p = some u ∧ ∀ I, u ≠ .box I) (nb : ∀ I, mo ≠ .box I) (new : ORep K (upd H p o) (s.put p mo) p mo) : MRep K (upd H p o) (s.put p mo) := by
  have np : p ∉ s.pv := fun q => by
    rcases h with h | ⟨u, h, _⟩
    · exact m.npv h q
    · rw [(m.pvs p q).2] at h; cases h
  have mp : H p = none ∨ Mut (H p) := by
    rcases h with h | ⟨u, h, _⟩
    · exact .inl h
    · exact .inr (m.at_ p u h).mut
  have ex : Ext H (upd H p o) := by
    rcases mp with z | z
    · exact .new z
    · exact .put z
  have nep : ∀ b ∈ s.pv, b ≠ p := fun b hb e => by subst e; exact np hb
  refine ⟨fun a u h1 => ?_, fun a b I J h1 h2 => ?_, fun b hb => ?_⟩
  · by_cases ha : a = p
    · subst ha
      rw [show (s.put a mo).M a = some mo from Mm.put_same] at h1
      cases h1
      exact new
    · have h1' : s.M a = some u := by rw [← h1]; exact (Mm.put_ne ha).symm
      have q := m.at_ a u h1'
      cases u with
      | lst ws => obtain ⟨vs, z1, z2⟩ := q; exact ⟨vs, by rw [upd_ne ha]; exact z1, Reps.ext ex _ _ z2⟩
      | dic ks ws => obtain ⟨vs, z1, z2, z3⟩ := q; exact ⟨vs, by rw [upd_ne ha]; exact z1, z2, Reps.ext ex _ _ z3⟩
      | ins C ns ws => obtain ⟨dx, vs, z1, z2, z3⟩ := q; exact ⟨dx, vs, by rw [upd_ne ha]; exact z1, z2, Reps.ext ex _ _ z3⟩
      | box I =>
        obtain ⟨st, vs, z0, z1, z2, z3⟩ := q
        exact ⟨st, vs, z0, by rw [upd_ne ha]; exact z1, z2.keep fun b hb => upd_ne (nep b hb), z3⟩
  · have ha : a ≠ p := fun e => by subst e; rw [show (s.put a mo).M a = some mo from Mm.put_same] at h1; cases h1; exact nb _ rfl
    have hb' : b ≠ p := fun e => by subst e; rw [show (s.put b mo).M b = some mo from Mm.put_same] at h2; cases h2; exact nb _ rfl
    rw [show (s.put p mo).M a = s.M a from Mm.put_ne ha] at h1
    rw [show (s.put p mo).M b = s.M b from Mm.put_ne hb'] at h2
    exact m.one a b I J h1 h2
  · exact ⟨by rw [upd_ne (nep b hb)]; exact (m.pvs b hb).1, (Mm.put_ne (nep b hb)).trans (m.pvs b hb).2⟩
end Dz
namespace Dz
open PySem PySem.Spec PyProof.Rows L2

/-! ### readings over deep values -/
abbrev Ev := List (Option D)
abbrev KD := D → Sg → Prop
abbrev DE := Ev → Sg → KD → Prop
abbrev DT := Ev → Sg → (Bool → Sg → Prop) → Prop
abbrev DA := Ev → Sg → (List D → Sg → Prop) → Prop
structure DEnds where
  nx : Ev → Sg → Prop
  rt : KD
  bk : Ev → Sg → Prop := fun _ _ => False
  ct : Ev → Sg → Prop := fun _ _ => False
abbrev DS := DEnds → Ev → Sg → Prop

def REnv (K : PySem.W.Frag) (H : Hp) (env : Ev) (σ : L2.St) : Prop := env.length = σ.length ∧ ∀ (i : Nat) w, env[i]? = some (some w) → ∃ v, σ[i]? = some (some v) ∧ Rep K H w v
theorem REnv.ext {K : PySem.W.Frag} {H H' : Hp} {env : Ev} {σ : L2.St} (e : Ext H H') (h : REnv K H env σ) : REnv K H' env σ :=
  ⟨h.1, fun i w q => by obtain ⟨v, a, b⟩ := h.2 i w q; exact ⟨v, a, Rep.ext e _ _ b⟩⟩
theorem REnv.set {K : PySem.W.Frag} {H : Hp} {env : Ev} {σ : L2.St} {w : D} {v : V} (i : Nat) (h : REnv K H env σ) (r : Rep K H w v) : REnv K H (env.set i (some w)) (σ.set i (some v)) := by
  refine ⟨by rw [List.length_set, List.length_set]; exact h.1, fun j u q => ?_⟩
  rw [List.getElem?_set] at q
  rw [List.getElem?_set]
  split at q
  · rename_i e
    subst e
    split at q
    · rename_i lt
      cases q
      rw [if_pos rfl, if_pos (by rw [← h.1]; exact lt)]
      exact ⟨v, rfl, r⟩
    · cases q
  · rename_i ne
    rw [if_neg ne]
    exact h.2 j u q
def Post (K : PySem.W.Frag) (H : Hp) (s0 : Sg) (R : KD) (Q : VK) : Prop := ∀ w s v H', R w s → Stp H s0 H' s → MRep K H' s → Rep K H' w v → Q v H'
def PostB (K : PySem.W.Frag) (H : Hp) (s0 : Sg) (R : Bool → Sg → Prop) (Q : Bool → Hp → Prop) : Prop := ∀ b s H', R b s → Stp H s0 H' s → MRep K H' s → Q b H'
def PostA (K : PySem.W.Frag) (H : Hp) (s0 : Sg) (R : List D → Sg → Prop) (Q : List V → Hp → Prop) : Prop := ∀ w s v H', R w s → Stp H s0 H' s → MRep K H' s → Reps K H' w v → Q v H'
def PostN (K : PySem.W.Frag) (H : Hp) (s0 : Sg) (R : Ev → Sg → Prop) (Q : L2.St → Hp → Prop) : Prop := ∀ env s σ H', R env s → Stp H s0 H' s → MRep K H' s → REnv K H' env σ → Q σ H'
theorem Post.ext {K : PySem.W.Frag} {H H1 : Hp} {s0 s1 : Sg} {R : KD} {Q : VK} (e : Stp H s0 H1 s1) (p : Post K H s0 R Q) : Post K H1 s1 R Q := fun w s v H' a b c d => p w s v H' a (e.trans b) c d
theorem PostB.ext {K : PySem.W.Frag} {H H1 : Hp} {s0 s1 : Sg} {R : Bool → Sg → Prop} {Q : Bool → Hp → Prop} (e : Stp H s0 H1 s1) (p : PostB K H s0 R Q) : PostB K H1 s1 R Q := fun w s H' a b c => p w s H' a (e.trans b) c
theorem PostA.ext {K : PySem.W.Frag} {H H1 : Hp} {s0 s1 : Sg} {R : List D → Sg → Prop} {Q : List V → Hp → Prop} (e : Stp H s0 H1 s1) (p : PostA K H s0 R Q) : PostA K H1 s1 R Q := fun w s v H' a b c d => p w s v H' a (e.trans b) c d
theorem PostN.ext {K : PySem.W.Frag} {H H1 : Hp} {s0 s1 : Sg} {R : Ev → Sg → Prop} {Q : L2.St → Hp → Prop} (e : Stp H s0 H1 s1) (p : PostN K H s0 R Q) : PostN K H1 s1 R Q := fun w s v H' a b c d => p w s v H' a (e.trans b) c d
structure PostD (K : PySem.W.Frag) (H : Hp) (s0 : Sg) (DD : DEnds) (D : Ends) : Prop where
  nx : PostN K H s0 DD.nx D.nx
  rt : Post K H s0 DD.rt D.rt
  bk : PostN K H s0 DD.bk D.bk
  ct : PostN K H s0 DD.ct D.ct
theorem PostD.ext {K : PySem.W.Frag} {H H1 : Hp} {s0 s1 : Sg} {DD : DEnds} {D : Ends} (e : Stp H s0 H1 s1) (p : PostD K H s0 DD D) : PostD K H1 s1 DD D := ⟨p.nx.ext e, p.rt.ext e, p.bk.ext e, p.ct.ext e⟩

def liftE (K : PySem.W.Frag) (t : DE) : TE := fun σ H Q => ∃ env s R, REnv K H env σ ∧ MRep K H s ∧ t env s R ∧ Post K H s R Q
def liftT (K : PySem.W.Frag) (t : DT) : TT := fun σ H Q => ∃ env s R, REnv K H env σ ∧ MRep K H s ∧ t env s R ∧ PostB K H s R Q
def liftA (K : PySem.W.Frag) (t : DA) : TA := fun σ H Q => ∃ env s R, REnv K H env σ ∧ MRep K H s ∧ t env s R ∧ PostA K H s R Q
def liftS (K : PySem.W.Frag) (t : DS) : TS := fun D σ H => ∃ env s DD, REnv K H env σ ∧ MRep K H s ∧ t DD env s ∧ PostD K H s DD D
abbrev PD (X : Cx) (e : Expr) (t : DE) : Prop := PE X e (liftE X.K t)
abbrev PDT (X : Cx) (e : Expr) (t : DT) : Prop := PT X e (liftT X.K t)
abbrev PDW (X : Cx) (e : Expr) (t : DT) : Prop := PW X e (liftT X.K t)
abbrev PDA (X : Cx) (es : List Expr) (t : DA) : Prop := PA X es (liftA X.K t)
abbrev PDS (X : Cx) (st : Stmt) (t : DS) : Prop := PS X st (liftS X.K t)
abbrev PDSs (X : Cx) (st : List Stmt) (t : DS) : Prop := PSs X st (liftS X.K t)

section
variable {X : Cx}
theorem pe_imp {e : Expr} {t t' : TE} (h : PE X e t) (hi : ∀ σ H Q, t' σ H Q → t σ H Q) : PE X e t' := ⟨fun pins s σ H Q I q => h.run pins s σ H Q I (hi σ H Q q)⟩
theorem pt_imp {e : Expr} {t t' : TT} (h : PT X e t) (hi : ∀ σ H Q, t' σ H Q → t σ H Q) : PT X e t' := ⟨fun pins s σ H Q I q => h.run pins s σ H Q I (hi σ H Q q)⟩
theorem pw_imp {e : Expr} {t t' : TT} (h : PW X e t) (hi : ∀ σ H Q, t' σ H Q → t σ H Q) : PW X e t' := ⟨fun wh pins s σ H Q I q => h.run wh pins s σ H Q I (hi σ H Q q)⟩
theorem pa_imp {e : List Expr} {t t' : TA} (h : PA X e t) (hi : ∀ σ H Q, t' σ H Q → t σ H Q) : PA X e t' := ⟨fun pos pins s σ H Q I q => h.run pos pins s σ H Q I (hi σ H Q q)⟩
theorem ps_imp {e : Stmt} {t t' : TS} (h : PS X e t) (hi : ∀ D σ H, t' D σ H → t D σ H) : PS X e t' := ⟨fun pins s σ H D I q => h.run pins s σ H D I (hi D σ H q)⟩
theorem pss_imp {e : List Stmt} {t t' : TS} (h : PSs X e t) (hi : ∀ D σ H, t' D σ H → t D σ H) : PSs X e t' := ⟨fun pins s σ H D I q => h.run pins s σ H D I (hi D σ H q)⟩

/-! ### names, constants -/
def dVar (i : Nat) : DE := fun env s R => match env[i]? with
  | some (some w) => R w s
  | _ => False
def dC (w : D) : DE := fun _ s R => R w s
theorem pd_var (i : Nat) {x : Str} {pos : Pos} (hN : X.N[i]? = some x := by rfl) (hv : Vis X.env.scope x := by first | exact Or.inl rfl | exact Or.inr (Or.inl rfl) | exact Or.inr (Or.inr rfl)) (hd : (x == ("__debug__" : Str)) = false := by decide)
    (hcd : (x == ("__classdict__" : Str)) = false := by decide) : PD X (.Name x pos) (dVar i) :=
  pe_imp (pe_var hN hv hd hcd) fun σ H Q ⟨env, s, R, h1, h2, h3, h4⟩ => by
    unfold dVar at h3
    split at h3
    · rename_i w e
      obtain ⟨v, a, b⟩ := h1.2 i w e
      exact ⟨v, a, h4 w s v H h3 (.refl _ _) h2 b⟩
    · exact h3.elim
/-- a constant that no heap is asked for -/
def flatD : D → Option V
  | .non => some .non
  | .bl b => some (.bl b)
  | .int i => some (.int i)
  | .str x => some (.str x)
  | .ref a => some (.ref a)
  | .ty n => some (.ty n)
  | _ => none
theorem flatD_rep {w : D} {v : V} (K : PySem.W.Frag) (H : Hp) (h : flatD w = some v) : Rep K H w v := by
  cases w <;> first | (cases h; rfl) | cases h
theorem pd_c {e : Expr} {w : D} {v : V} (h : PE X e (tC v)) (hf : flatD w = some v := by rfl) : PD X e (dC w) :=
  pe_imp h fun σ H Q ⟨env, s, R, h1, h2, h3, h4⟩ => h4 w s v H h3 (.refl _ _) h2 (flatD_rep _ _ hf)
theorem pd_int {i : Int} {j : Nat} {pos : Pos} : PD X (.Constant (.int i) j pos) (dC (.int i)) := pd_c pe_int
theorem pd_bl {b : Bool} {j : Nat} {pos : Pos} : PD X (.Constant (.bool b) j pos) (dC (.bl b)) := pd_c pe_bl
theorem pd_non {j : Nat} {pos : Pos} : PD X (.Constant .none j pos) (dC .non) := pd_c pe_non
theorem pd_str {x : Str} {j : Nat} {pos : Pos} : PD X (.Constant (.str x) j pos) (dC (.str x)) := pd_c pe_str
/-- a module's constant -/
theorem pd_glob {x : Str} {w : D} {v : V} {u : Value} {pos : Pos} (hg : Gl X x) (hm : X.mg x = some u) (r : RelV v u) (hf : flatD w = some v := by rfl) (hd : (x == ("__debug__" : Str)) = false := by decide) : PD X (.Name x pos) (dC w) := pd_c (pe_glob hg hm r hd) hf
/-- a built-in class by its name -/
theorem pd_ty {x : Str} {n : String} {pos : Pos} (hg : Gl X x) (hm : X.mg x = none) (hv : bootBuiltins x = some (.type n)) (hn : x ≠ "__name__" := by decide) (hd : (x == ("__debug__" : Str)) = false := by decide) : PD X (.Name x pos) (dC (.ty n)) :=
  pd_c (pe_bltn (v := .ty n) hg hm hv rfl hn hd)

/-! ### argument lists, tuples, lists -/
def dNil : DA := fun _ s R => R [] s
def dCons (t : DE) (u : DA) : DA := fun env s R => t env s fun x s1 => u env s1 fun xs s2 => R (x :: xs) s2
theorem pda_nil : PDA X [] dNil := pa_imp pa_nil fun σ H Q ⟨env, s, R, h1, h2, h3, h4⟩ => h4 [] s [] H h3 (.refl _ _) h2 rfl
theorem pda_cons {e : Expr} {es : List Expr} {t : DE} {u : DA} (h : PD X e t) (hr : PDA X es u) (hs : starEach (e :: es) X.env = (false, eval e X.env) :: starEach es X.env := by rfl) : PDA X (e :: es) (dCons t u) :=
  pa_imp (pa_cons h hr hs) fun σ H Q ⟨env, s, R, h1, h2, h3, h4⟩ => ⟨env, s, _, h1, h2, h3, fun w s1 v H1 q e1 m1 r1 => ⟨env, s1, _, h1.ext e1.ext, m1, q, fun ws s2 vs H2 q2 e2 m2 r2 =>
    h4 (w :: ws) s2 (v :: vs) H2 q2 (e1.trans e2) m2 ⟨v, vs, rfl, Rep.ext e2.ext _ _ r1, r2⟩⟩⟩
def dTup (t : DA) : DE := fun env s R => t env s fun ws s1 => ws.length ≤ 1000000 ∧ R (.tup ws) s1
theorem mil : (1000000 : Nat) ≤ sizeLine := by rw [sizeLine_eq]; decide
theorem pd_tup {es : List Expr} {t : DA} {k : Nat} {pos : Pos} (h : PDA X es t) : PD X (.Tuple es k pos) (dTup t) :=
  pe_imp (pe_tup h) fun σ H Q ⟨env, s, R, h1, h2, h3, h4⟩ => ⟨env, s, _, h1, h2, h3, fun ws s1 vs H1 ⟨l, q⟩ e1 m1 r1 => ⟨by rw [← r1.len]; exact Nat.le_trans l mil, fun p hp =>
    h4 (.tup ws) s1 (.ref p) _ q (e1.trans (.new hp)) (m1.new hp) ⟨p, vs, rfl, .of upd_same, Reps.ext (.new hp) _ _ r1⟩⟩⟩
/-- the empty tuple is one object -/
theorem pd_tup0 {k : Nat} {pos : Pos} : PD X (.Tuple [] k pos) (dC (.tup [])) :=
  pe_imp (pe_tup (X := X) pa_nil) fun σ H Q ⟨env, s, R, h1, h2, h3, h4⟩ => ⟨Nat.zero_le _, fun p hp => h4 (.tup []) s (.ref p) _ h3 (.new hp) (h2.new hp) ⟨p, [], rfl, .of upd_same, rfl⟩⟩
/-- a list that may change -/
def dLstM (t : DA) : DE := fun env s R => t env s fun ws s1 => ws.length ≤ 1000000 ∧ ∀ p, s1.M p = none → R (.ref p) (s1.put p (.lst ws))
theorem pd_lstM {es : List Expr} {t : DA} {pos : Pos} (h : PDA X es t) : PD X (.List es pos) (dLstM t) :=
  pe_imp (pe_lst h) fun σ H Q ⟨env, s, R, h1, h2, h3, h4⟩ => ⟨env, s, _, h1, h2, h3, fun ws s1 vs H1 ⟨l, q⟩ e1 m1 r1 => ⟨by rw [← r1.len]; exact Nat.le_trans l mil, fun p hp =>
    h4 (.ref p) _ (.ref p) _ (q p (m1.free hp)) (e1.trans (.put (.inl hp))) (m1.write (.inl hp) (fun _ => nofun) ⟨vs, upd_same, Reps.ext (.new hp) _ _ r1⟩) rfl⟩⟩

/-! ### a list is locked: from then on it is a value -/
theorem inv_freeze {pins : List (Addr × Obj)} {σ : L2.St} {H : Hp} {s : Shared} {a : Addr} {z : HO} (I : Inv X pins σ H s) (h : H a = some z) (hz : Mut (some z)) : ∃ o, Inv X pins σ (upd H a (.frz o z)) s := by
  have ok := I.hok a z h
  obtain ⟨o, ho⟩ : ∃ o, s.heap.get? a = some o := by
    have := ok.lt
    cases z with
    | lst xs => obtain ⟨_, _, _, _, e⟩ := ok; exact ⟨_, e⟩
    | dK kvs => obtain ⟨_, _, _, _, o, _, _, e, _⟩ := ok; exact ⟨_, e⟩
    | dT kvs => obtain ⟨_, _, _, _, o, _, _, e, _⟩ := ok; exact ⟨_, e⟩
    | set S n => obtain ⟨o, _, _, _, e, _⟩ := ok; exact ⟨_, e⟩
    | ins C dx fs => obtain ⟨_, _, _, e, _⟩ := ok; exact ⟨_, e⟩
    | ext φ => obtain ⟨_, ⟨o, e⟩, _⟩ := ok; exact ⟨_, e⟩
    | _ => exact hz.elim
  have nm : ∀ b u, H b = some u → ¬ Mut (some u) → b ≠ a := fun b u e n q => by subst q; rw [h] at e; cases e; exact n hz
  have own : ∀ b c, H b = some (.own c) → upd H a (.frz o z) b = some (.own c) := fun b c e => by rw [upd_ne (nm b _ e fun q => q)]; exact e
  have tup : ∀ b c, H b = some (.tup c) → upd H a (.frz o z) b = some (.tup c) := fun b c e => by rw [upd_ne (nm b _ e fun q => q)]; exact e
  have fre : ∀ b, H b = none → upd H a (.frz o z) b = none := fun b e => by rw [upd_ne (fun q => by subst q; rw [h] at e; cases e)]; exact e
  refine ⟨o, ⟨I.ok, I.os, I.bare, ?_, I.loc, I.cell, fre _ I.free, fun x c e => fre _ (I.freeC x c e), fun p hp => ?_, fun b u e => ?_, I.len⟩⟩
  · have u := I.base
    exact ⟨u.keep, u.slot, fun b ob q n x => fre b (u.free b ob q n x), u.there, fun b xs e => tup b xs (u.tups b xs e), fun b ob w e => by
      have e' := u.frzs b ob w e
      rw [upd_ne (nm b _ e' fun q => q)]; exact e', fun b ps e => by
      obtain ⟨m, e'⟩ := u.tbls b ps e
      exact ⟨m, by rw [upd_ne (nm b _ e' fun q => q)]; exact e'⟩⟩
  · obtain ⟨p1, p2, p3⟩ := I.pin p hp
    exact ⟨p1, fre _ p2, p3⟩
  · by_cases hb : b = a
    · subst hb
      rw [upd_same] at e
      cases e
      exact ⟨ho, ok.stay (fun _ _ _ q => q) (fun c q => own c _ q) fun c xs q => tup c xs q⟩
    · rw [upd_ne hb] at e
      exact (I.hok b u e).stay (fun _ _ _ q => q) (fun c q => own c _ q) fun c xs q => tup c xs q
def tFrz (t : TE) : TE := fun σ H Q => t σ H fun v H1 => ∃ a z, v = .ref a ∧ H1 a = some z ∧ Mut (some z) ∧ ∀ o, Q v (upd H1 a (.frz o z))
theorem pe_frz {e : Expr} {t : TE} (h : PE X e t) : PE X e (tFrz t) := ⟨fun pins s σ H Q I q => thn (h.run pins s σ H _ I q) fun u s' ⟨v, H1, I1, r, a, z, e1, e2, e3, k⟩ => by
  obtain ⟨o, I2⟩ := inv_freeze I1 e2 e3
  exact ⟨v, _, I2, r, k o⟩⟩
/-- a mutable list becomes a value -/
def dFrz (t : DE) : DE := fun env s R => t env s fun w s1 => match w with
  | .ref a => (match s1.M a with
    | some (.lst ws) => R (.lst ws) (s1.del a)
    | some (.dic ks ws) => R (.dic ks ws) (s1.del a)
    | _ => False)
  | _ => False
theorem mrep_del {K : PySem.W.Frag} {H : Hp} {s : Sg} {a : Addr} {o : Obj} {z : HO} {mo : MO} (m : MRep K H s) (h : s.M a = some mo) (hz : H a = some z) : MRep K (upd H a (.frz o z)) (s.del a) := by
  have mu := (m.at_ a _ h).mut
  have ex : Ext H (upd H a (.frz o z)) := .put mu
  have na : ∀ b ∈ s.pv, b ≠ a := fun b hb e => by subst e; rw [(m.pvs b hb).2] at h; cases h
  refine ⟨fun b u e => ?_, fun b c I J e1 e2 => ?_, fun b hb => ?_⟩
  · have nb' : b ≠ a := fun q => by subst q; rw [show (s.del b).M b = none from Mm.del_same] at e; cases e
    have e' : s.M b = some u := by rw [← e]; exact (Mm.del_ne nb').symm
    have q := m.at_ b u e'
    cases u with
    | lst ws => obtain ⟨vs, z1, z2⟩ := q; exact ⟨vs, by rw [upd_ne nb']; exact z1, Reps.ext ex _ _ z2⟩
    | dic ks ws => obtain ⟨vs, z1, z2, z3⟩ := q; exact ⟨vs, by rw [upd_ne nb']; exact z1, z2, Reps.ext ex _ _ z3⟩
    | ins C ns ws => obtain ⟨dx, vs, z1, z2, z3⟩ := q; exact ⟨dx, vs, by rw [upd_ne nb']; exact z1, z2, Reps.ext ex _ _ z3⟩
    | box I =>
      obtain ⟨st, vs, z0, z1, z2, z3⟩ := q
      exact ⟨st, vs, z0, by rw [upd_ne nb']; exact z1, z2.keep fun c hc => upd_ne (na c hc), z3⟩
  · have nb1 : b ≠ a := fun q => by subst q; rw [show (s.del b).M b = none from Mm.del_same] at e1; cases e1
    have nb2 : c ≠ a := fun q => by subst q; rw [show (s.del c).M c = none from Mm.del_same] at e2; cases e2
    rw [show (s.del a).M b = s.M b from Mm.del_ne nb1] at e1
    rw [show (s.del a).M c = s.M c from Mm.del_ne nb2] at e2
    exact m.one b c I J e1 e2
  · exact ⟨by rw [upd_ne (na b hb)]; exact (m.pvs b hb).1, (Mm.del_ne (na b hb)).trans (m.pvs b hb).2⟩
theorem pd_frz {e : Expr} {t : DE} (h : PD X e t) : PD X e (dFrz t) :=
  pe_imp (pe_frz h) fun σ H Q ⟨env, s, R, h1, h2, h3, h4⟩ => ⟨env, s, _, h1, h2, h3, fun w s1 v H1 q e1 m1 r1 => by
    cases w with
    | ref a =>
      cases (show v = .ref a from r1)
      dsimp only at q
      cases hm : s1.M a with
      | none => rw [hm] at q; exact q.elim
      | some mo =>
        rw [hm] at q
        cases mo with
        | lst ws =>
          obtain ⟨vs, z1, z2⟩ := m1.at_ a _ hm
          have ex : ∀ o, Ext H1 (upd H1 a (.frz o (.lst vs))) := fun o => .put (by rw [z1]; trivial)
          exact ⟨a, _, rfl, z1, trivial, fun o => h4 (.lst ws) _ _ _ q (e1.trans (.del (by rw [z1]; trivial) (by rw [hm]; simp))) (mrep_del m1 hm z1) ⟨a, vs, rfl, .inl (.inr ⟨o, fz_frz upd_same⟩), Reps.ext (ex o) _ _ z2⟩⟩
        | dic ks ws =>
          obtain ⟨vs, z1, z3, z2⟩ := m1.at_ a _ hm
          have ex : ∀ o, Ext H1 (upd H1 a (.frz o (.dK (ks.zip vs)))) := fun o => .put (by rw [z1]; trivial)
          exact ⟨a, _, rfl, z1, trivial, fun o => h4 (.dic ks ws) _ _ _ q (e1.trans (.del (by rw [z1]; trivial) (by rw [hm]; simp))) (mrep_del m1 hm z1) ⟨a, vs, o, rfl, upd_same, z3, Reps.ext (ex o) _ _ z2⟩⟩
        | ins C ns ws => exact q.elim
        | box I => exact q.elim
    | _ => exact q.elim⟩
/-- a list that is made and never changed -/
def dLst (t : DA) : DE := fun env s R => t env s fun ws s1 => ws.length ≤ 1000000 ∧ R (.lst ws) s1
theorem pd_lst {es : List Expr} {t : DA} {pos : Pos} (h : PDA X es t) : PD X (.List es pos) (dLst t) :=
  pe_imp (pe_frz (pe_lst h)) fun σ H Q ⟨env, s, R, h1, h2, h3, h4⟩ => ⟨env, s, _, h1, h2, h3, fun ws s1 vs H1 ⟨l, q⟩ e1 m1 r1 => ⟨by rw [← r1.len]; exact Nat.le_trans l mil, fun p hp =>
    ⟨p, _, rfl, upd_same, trivial, fun o => by
      rw [upd_upd]
      exact h4 (.lst ws) s1 (.ref p) _ q (e1.trans (.new hp)) (m1.new hp) ⟨p, vs, rfl, .inl (.inr ⟨o, fz_frz upd_same⟩), Reps.ext (.new hp) _ _ r1⟩⟩⟩⟩
end
end Dz
namespace Dz
open PySem PySem.Spec PyProof.Rows L2

/-! ### sequences, whether they may change or not -/
def asL (s : Sg) : D → Option (List D)
  | .lst ws => some ws
  | .ref a => (match s.M a with
    | some (.lst ws) => some ws
    | _ => none)
  | _ => none
def asT : D → Option (List D)
  | .tup ws => some ws
  | _ => none
def asQ (s : Sg) : D → Option (List D)
  | .tup ws => some ws
  | w => asL s w
theorem asL_sq {K : PySem.W.Frag} {H : Hp} {s : Sg} {w : D} {v : V} {ws : List D} (h : asL s w = some ws) (r : Rep K H w v) (m : MRep K H s) : ∃ a vs, v = .ref a ∧ SqL K H a vs ∧ Reps K H ws vs := by
  cases w with
  | lst us =>
    cases h
    obtain ⟨a, vs, e, f, q⟩ := r
    exact ⟨a, vs, e, f.sq, q⟩
  | ref a =>
    dsimp only [asL] at h
    cases hm : s.M a with
    | none => rw [hm] at h; cases h
    | some o =>
      rw [hm] at h
      cases o with
      | lst us =>
        cases h
        obtain ⟨vs, e, q⟩ := m.at_ a _ hm
        exact ⟨a, vs, r, .of e, q⟩
      | _ => cases h
  | _ => cases h
theorem asQ_sq {K : PySem.W.Frag} {H : Hp} {s : Sg} {w : D} {v : V} {ws : List D} (h : asQ s w = some ws) (r : Rep K H w v) (m : MRep K H s) : ∃ a vs, v = .ref a ∧ (SqL K H a vs ∨ SqT K H a vs) ∧ Reps K H ws vs := by
  cases w with
  | tup us =>
    cases h
    obtain ⟨a, vs, e, f, q⟩ := r
    exact ⟨a, vs, e, .inr f, q⟩
  | _ =>
    obtain ⟨a, vs, e, f, q⟩ := asL_sq (s := s) (ws := ws) (by simpa only [asQ] using h) r m
    exact ⟨a, vs, e, .inl f, q⟩
theorem asT_sq {K : PySem.W.Frag} {H : Hp} {w : D} {v : V} {ws : List D} (h : asT w = some ws) (r : Rep K H w v) : ∃ a vs, v = .ref a ∧ SqT K H a vs ∧ Reps K H ws vs := by
  cases w with
  | tup us => cases h; exact r
  | _ => cases h

/-! ### value relations, lifted -/
abbrev D1 := D → Sg → KD → Prop
abbrev D2 := D → D → Sg → KD → Prop
abbrev DL := List D → Sg → KD → Prop
def lift1 (K : PySem.W.Frag) (r : D1) : V → Hp → VK → Prop := fun x H Q => ∃ w s R, Rep K H w x ∧ MRep K H s ∧ r w s R ∧ Post K H s R Q
def lift2 (K : PySem.W.Frag) (r : D2) : R2 := fun x y H Q => ∃ w u s R, Rep K H w x ∧ Rep K H u y ∧ MRep K H s ∧ r w u s R ∧ Post K H s R Q
def liftL (K : PySem.W.Frag) (r : DL) : List V → Hp → VK → Prop := fun xs H Q => ∃ ws s R, Reps K H ws xs ∧ MRep K H s ∧ r ws s R ∧ Post K H s R Q
def dUn (r : D1) (ta : DE) : DE := fun env s R => ta env s fun x s1 => r x s1 R
def dOp (r : D2) (ta tb : DE) : DE := fun env s R => ta env s fun x s1 => tb env s1 fun y s2 => r x y s2 R
def dCB (r : DL) (ta : DA) : DE := fun env s R => ta env s fun xs s1 => r xs s1 R
section
variable {X : Cx} {pos : Pos} {a b : Expr} {ta tb : DE} {r : D2}
theorem op_imp {f : Value → Value → Sem Value} {r r' : R2} (h : OpR X f r) (hi : ∀ x y H Q, r' x y H Q → r x y H Q) : OpR X f r' := fun pins s σ H x y v u Q I rx ry q => h pins s σ H x y v u Q I rx ry (hi x y H Q q)
theorem dOp_imp (K : PySem.W.Frag) (r : D2) (ta tb : DE) : ∀ σ H Q, liftE K (dOp r ta tb) σ H Q → tOp (lift2 K r) (liftE K ta) (liftE K tb) σ H Q := fun σ H Q ⟨env, s, R, h1, h2, h3, h4⟩ =>
  ⟨env, s, _, h1, h2, h3, fun x s1 v H1 q e1 m1 r1 => ⟨env, s1, _, h1.ext e1.ext, m1, q, fun y s2 u H2 q2 e2 m2 r2 => ⟨x, y, s2, R, Rep.ext e2.ext _ _ r1, r2, m2, q2, h4.ext (e1.trans e2)⟩⟩⟩
theorem pd_op {op : Operator} (ho : OpR X (binaryOp op) (lift2 X.K r)) (ha : PD X a ta) (hb : PD X b tb) : PD X (.BinOp a op b pos) (dOp r ta tb) := pe_imp (pe_op ho ha hb) (dOp_imp X.K r ta tb)
theorem pd_cmp {op : CmpOp} (ho : OpR X (compareOp op) (lift2 X.K r)) (ha : PD X a ta) (hb : PD X b tb) (hm : behindInMarks op b = false) : PD X (.Compare a [op] [b] pos) (dOp r ta tb) := pe_imp (pe_cmpR ho ha hb hm) (dOp_imp X.K r ta tb)
/-- a test by a value that is a bool -/
def dB (t : DE) : DT := fun env s R => t env s fun w s1 => match w with
  | .bl b => R b s1
  | _ => False
theorem pdt_val {e : Expr} {t : DE} (h : PD X e t) (he : ∀ whole, isTrue e X.env whole = (do let v ← whole; standAt e.pos; holding [v] (truthy v)) := by intro _; rfl) : PDT X e (dB t) :=
  pt_imp (pt_val h he) fun σ H Q ⟨env, s, R, h1, h2, h3, h4⟩ => ⟨env, s, _, h1, h2, h3, fun w s1 v H1 q e1 m1 r1 => by
    cases w with
    | bl b => exact ⟨b, r1, h4 b s1 H1 q e1 m1⟩
    | _ => exact q.elim⟩
theorem pdt_cmp {op : CmpOp} (ho : OpR X (compareOp op) (lift2 X.K r)) (ha : PD X a ta) (hb : PD X b tb) (hm : behindInMarks op b = false) : PDT X (.Compare a [op] [b] pos) (dB (dOp r ta tb)) :=
  pt_imp (pt_cmpR ho ha hb hm) fun σ H Q ⟨env, s, R, h1, h2, h3, h4⟩ => dOp_imp X.K r ta tb σ H _ ⟨env, s, _, h1, h2, h3, fun w s1 v H1 q e1 m1 r1 => by
    cases w with
    | bl b => exact ⟨b, r1, h4 b s1 H1 q e1 m1⟩
    | _ => exact q.elim⟩
/-- not, and, or in tests -/
def dNot (t : DT) : DT := fun env s R => t env s fun c s1 => R (!c) s1
def dAnd (t u : DT) : DT := fun env s R => t env s fun c s1 => if c = true then u env s1 R else R false s1
def dOr (t u : DT) : DT := fun env s R => t env s fun c s1 => if c = true then R true s1 else u env s1 R
theorem pdt_not {e : Expr} {t : DT} (h : PDT X e t) : PDT X (.UnaryOp .Not e pos) (dNot t) :=
  pt_imp (pt_not h) fun σ H Q ⟨env, s, R, h1, h2, h3, h4⟩ => ⟨env, s, _, h1, h2, h3, fun c s1 H1 q e1 m1 => h4 (!c) s1 H1 q e1 m1⟩
theorem pdw_and1 {t : DT} (h : PDT X a t) : PDW X (.BoolOp .And [a] pos) t := pw_and1 h
theorem pdw_or1 {t : DT} (h : PDT X a t) : PDW X (.BoolOp .Or [a] pos) t := pw_or1 h
theorem pdw_and {rest : List Expr} {t u : DT} (h : PDT X a t) (hb : PDW X (.BoolOp .And (b :: rest) pos) u) : PDW X (.BoolOp .And (a :: b :: rest) pos) (dAnd t u) :=
  pw_imp (pw_and h hb) fun σ H Q ⟨env, s, R, h1, h2, h3, h4⟩ => ⟨env, s, _, h1, h2, h3, fun c s1 H1 q e1 m1 => by
    cases c with
    | true => rw [if_pos rfl] at q ⊢; exact ⟨env, s1, R, h1.ext e1.ext, m1, q, h4.ext e1⟩
    | false => rw [if_neg Bool.false_ne_true] at q ⊢; exact h4 false s1 H1 q e1 m1⟩
theorem pdw_or {rest : List Expr} {t u : DT} (h : PDT X a t) (hb : PDW X (.BoolOp .Or (b :: rest) pos) u) : PDW X (.BoolOp .Or (a :: b :: rest) pos) (dOr t u) :=
  pw_imp (pw_or h hb) fun σ H Q ⟨env, s, R, h1, h2, h3, h4⟩ => ⟨env, s, _, h1, h2, h3, fun c s1 H1 q e1 m1 => by
    cases c with
    | true => rw [if_pos rfl] at q ⊢; exact h4 true s1 H1 q e1 m1
    | false => rw [if_neg Bool.false_ne_true] at q ⊢; exact ⟨env, s1, R, h1.ext e1.ext, m1, q, h4.ext e1⟩⟩
theorem pdw_t {e : Expr} {t : DT} (h : PDW X e t) : PDT X e t := h.pt
/-- and, or, not as values of bools -/
def dAndV (t u : DE) : DE := fun env s R => t env s fun w s1 => match w with
  | .bl c => if c = true then u env s1 R else R (.bl false) s1
  | _ => False
def dOrV (t u : DE) : DE := fun env s R => t env s fun w s1 => match w with
  | .bl c => if c = true then R (.bl true) s1 else u env s1 R
  | _ => False
def dNotV (t : DE) : DE := fun env s R => t env s fun w s1 => match w with
  | .bl c => R (.bl (!c)) s1
  | _ => False
theorem pd_one {op} {t : DE} (h : PD X a t) : PD X (.BoolOp op [a] pos) t := pe_one h
theorem pd_and {rest : List Expr} (ha : PD X a ta) (hb : PD X (.BoolOp .And (b :: rest) pos) tb) : PD X (.BoolOp .And (a :: b :: rest) pos) (dAndV ta tb) :=
  pe_imp (pe_and ha hb) fun σ H Q ⟨env, s, R, h1, h2, h3, h4⟩ => ⟨env, s, _, h1, h2, h3, fun w s1 v H1 q e1 m1 r1 => by
    cases w with
    | bl c =>
      refine ⟨c, r1, ?_⟩
      dsimp only at q
      cases c with
      | true => rw [if_pos rfl] at q ⊢; exact ⟨env, s1, R, h1.ext e1.ext, m1, q, h4.ext e1⟩
      | false => rw [if_neg Bool.false_ne_true] at q ⊢; exact h4 (.bl false) s1 _ H1 q e1 m1 rfl
    | _ => exact q.elim⟩
theorem pd_or {rest : List Expr} (ha : PD X a ta) (hb : PD X (.BoolOp .Or (b :: rest) pos) tb) : PD X (.BoolOp .Or (a :: b :: rest) pos) (dOrV ta tb) :=
  pe_imp (pe_or ha hb) fun σ H Q ⟨env, s, R, h1, h2, h3, h4⟩ => ⟨env, s, _, h1, h2, h3, fun w s1 v H1 q e1 m1 r1 => by
    cases w with
    | bl c =>
      refine ⟨c, r1, ?_⟩
      dsimp only at q
      cases c with
      | true => rw [if_pos rfl] at q ⊢; exact h4 (.bl true) s1 _ H1 q e1 m1 rfl
      | false => rw [if_neg Bool.false_ne_true] at q ⊢; exact ⟨env, s1, R, h1.ext e1.ext, m1, q, h4.ext e1⟩
    | _ => exact q.elim⟩
theorem pd_not (ha : PD X a ta) : PD X (.UnaryOp .Not a pos) (dNotV ta) :=
  pe_imp (pe_not ha) fun σ H Q ⟨env, s, R, h1, h2, h3, h4⟩ => ⟨env, s, _, h1, h2, h3, fun w s1 v H1 q e1 m1 r1 => by
    cases w with
    | bl c => exact ⟨c, r1, h4 (.bl (!c)) s1 _ H1 q e1 m1 rfl⟩
    | _ => exact q.elim⟩
def dIfE (t : DT) (ta tb : DE) : DE := fun env s R => t env s fun c s1 => if c = true then ta env s1 R else tb env s1 R
theorem pd_ifExp {c : Expr} {t : DT} (hc : PDT X c t) (ha : PD X a ta) (hb : PD X b tb) : PD X (.IfExp c a b pos) (dIfE t ta tb) :=
  pe_imp (pe_ifExp hc ha hb) fun σ H Q ⟨env, s, R, h1, h2, h3, h4⟩ => ⟨env, s, _, h1, h2, h3, fun c s1 H1 q e1 m1 => by
    cases c with
    | true => rw [if_pos rfl] at q ⊢; exact ⟨env, s1, R, h1.ext e1.ext, m1, q, h4.ext e1⟩
    | false => rw [if_neg Bool.false_ne_true] at q ⊢; exact ⟨env, s1, R, h1.ext e1.ext, m1, q, h4.ext e1⟩⟩
end

/-! ### a new list -/
def tNew (ta : TA) : TE := fun σ H Q => ta σ H fun vs H1 => ∀ p, H1 p = none → Q (.ref p) (upd H1 p (.lst vs))
abbrev PNL (X : Cx) (e : Expr) (t : DA) : Prop := PE X e (tNew (liftA X.K t))
def dF (t : DA) : DE := fun env s R => t env s fun ws s1 => R (.lst ws) s1
def dM (t : DA) : DE := fun env s R => t env s fun ws s1 => ∀ p, s1.M p = none → R (.ref p) (s1.put p (.lst ws))
section
variable {X : Cx} {pos : Pos} {e : Expr} {t : DA}
theorem pd_F (h : PNL X e t) : PD X e (dF t) :=
  pe_imp (pe_frz h) fun σ H Q ⟨env, s, R, h1, h2, h3, h4⟩ => ⟨env, s, _, h1, h2, h3, fun ws s1 vs H1 q e1 m1 r1 p hp => ⟨p, _, rfl, upd_same, trivial, fun o => by
    rw [upd_upd]
    exact h4 (.lst ws) s1 (.ref p) _ q (e1.trans (.new hp)) (m1.new hp) ⟨p, vs, rfl, .inl (.inr ⟨o, fz_frz upd_same⟩), Reps.ext (.new hp) _ _ r1⟩⟩⟩
theorem pd_M (h : PNL X e t) : PD X e (dM t) :=
  pe_imp h fun σ H Q ⟨env, s, R, h1, h2, h3, h4⟩ => ⟨env, s, _, h1, h2, h3, fun ws s1 vs H1 q e1 m1 r1 p hp =>
    h4 (.ref p) _ (.ref p) _ (q p (m1.free hp)) (e1.trans (.put (.inl hp))) (m1.write (.inl hp) (fun _ => nofun) ⟨vs, upd_same, Reps.ext (.new hp) _ _ r1⟩) rfl⟩
def dSz (t : DA) : DA := fun env s R => t env s fun ws s1 => ws.length ≤ 1000000 ∧ R ws s1
theorem nl_lst {es : List Expr} (h : PDA X es t) : PNL X (.List es pos) (dSz t) :=
  pe_imp (pe_lst h) fun σ H Q ⟨env, s, R, h1, h2, h3, h4⟩ => ⟨env, s, _, h1, h2, h3, fun ws s1 vs H1 ⟨l, q⟩ e1 m1 r1 => ⟨by rw [← r1.len]; exact Nat.le_trans l mil, fun p hp => h4 ws s1 vs H1 q e1 m1 r1 p hp⟩⟩
end

/-! ### deep data -/
mutual
def toPy : D → Option PyData
  | .non => some .none
  | .bl b => some (.bool b)
  | .int i => some (.int i)
  | .str x => some (.str x)
  | .tup ws => (toPys ws).map PyData.tuple
  | .lst ws => (toPys ws).map PyData.list
  | .dic _ _ => none
  | .ref _ => none
  | .ty _ => none
def toPys : List D → Option (List PyData)
  | [] => some []
  | w :: ws => (toPy w).bind fun d => (toPys ws).map fun ds => d :: ds
end
mutual
theorem Rep.dp {K : PySem.W.Frag} {H : Hp} : ∀ (w : D) (v : V) (d : PyData), toPy w = some d → Rep K H w v → Dp K H v d
  | .non, v, d, h, r => by cases h; cases (show v = .non from r); exact .non
  | .bl b, v, d, h, r => by cases h; cases (show v = .bl b from r); exact .bl b
  | .int i, v, d, h, r => by cases h; cases (show v = .int i from r); exact .int i
  | .str x, v, d, h, r => by cases h; cases (show v = .str x from r); exact .str x
  | .tup ws, v, d, h, r => by
    obtain ⟨a, vs, rfl, f, q⟩ := r
    unfold toPy at h
    obtain ⟨ds, e, rfl⟩ := Option.map_eq_some_iff.mp h
    exact .tup f (Reps.dp ws vs ds e q)
  | .lst ws, v, d, h, r => by
    obtain ⟨a, vs, rfl, f, q⟩ := r
    unfold toPy at h
    obtain ⟨ds, e, rfl⟩ := Option.map_eq_some_iff.mp h
    exact .lst f.sq (Reps.dp ws vs ds e q)
  | .dic _ _, v, d, h, r => by cases h
  | .ref _, v, d, h, r => by cases h
  | .ty _, v, d, h, r => by cases h
theorem Reps.dp {K : PySem.W.Frag} {H : Hp} : ∀ (ws : List D) (vs : List V) (ds : List PyData), toPys ws = some ds → Reps K H ws vs → DpAll K H vs ds
  | [], vs, ds, h, r => by cases h; cases (show vs = [] from r); exact .nil
  | w :: ws, vs, ds, h, r => by
    obtain ⟨v, q, rfl, r1, r2⟩ := r
    unfold toPys at h
    obtain ⟨d, e1, h⟩ := Option.bind_eq_some_iff.mp h
    obtain ⟨es, e2, rfl⟩ := Option.map_eq_some_iff.mp h
    exact .cons (Rep.dp w v d e1 r1) (Reps.dp ws q es e2 r2)
end
def pyOf (s : Sg) : D → Option PyData
  | .ref a => (match s.M a with
    | some (.lst ws) => (toPys ws).map PyData.list
    | _ => none)
  | w => toPy w
theorem pyOf_dp {K : PySem.W.Frag} {H : Hp} {s : Sg} {w : D} {v : V} {d : PyData} (h : pyOf s w = some d) (r : Rep K H w v) (m : MRep K H s) : Dp K H v d := by
  cases w with
  | ref a =>
    dsimp only [pyOf] at h
    cases hm : s.M a with
    | none => rw [hm] at h; cases h
    | some o =>
      rw [hm] at h
      cases o with
      | lst us =>
        obtain ⟨ds, e, rfl⟩ := Option.map_eq_some_iff.mp h
        obtain ⟨vs, e1, q⟩ := m.at_ a _ hm
        cases (show v = .ref a from r)
        exact .lst (.of e1) (Reps.dp us vs ds e q)
      | _ => cases h
  | _ => exact Rep.dp _ v d h r

/-! ### operators -/
section
variable {X : Cx}
/-- a + b -/
def rAdd : D2 := fun x y s R => match x, y with
  | .int i, .int j => R (.int (i + j)) s
  | .str a, .str b => a.length + b.length ≤ 1000000 ∧ R (.str (a ++ b)) s
  | .tup a, .tup b => a.length + b.length ≤ 1000000 ∧ R (.tup (a ++ b)) s
  | _, _ => False
theorem od_add : OpR X (binaryOp .Add) (lift2 X.K rAdd) := by
  refine op_imp ((op_add.or op_add_str).or op_catA) fun x y H Q ⟨w, u, s, R, r1, r2, m, h, p⟩ => ?_
  unfold rAdd at h
  split at h
  · rename_i i j
    exact .inl (.inl ⟨i, j, r1, r2, p _ _ _ _ h (.refl _ _) m rfl⟩)
  · rename_i a b
    exact .inl (.inr ⟨a, b, r1, r2, Nat.le_trans h.1 mil, p _ _ _ _ h.2 (.refl _ _) m rfl⟩)
  · rename_i ws us
    obtain ⟨a, vs, rfl, f1, q1⟩ := r1
    obtain ⟨b, ts, rfl, f2, q2⟩ := r2
    have hl : vs.length + ts.length ≤ sizeLine := by rw [← q1.len, ← q2.len]; exact Nat.le_trans h.1 mil
    refine .inr ⟨a, b, vs, ts, rfl, rfl, f1, f2, hl, fun e => ?_, fun _ e => ?_, fun _ _ q hq => ?_⟩
    · subst e
      have e0 : ws = [] := List.length_eq_zero_iff.mp q1.len
      subst e0
      exact p _ _ _ _ h.2 (.refl _ _) m ⟨b, ts, rfl, f2, q2⟩
    · subst e
      have e0 : us = [] := List.length_eq_zero_iff.mp q2.len
      subst e0
      exact p _ _ _ _ h.2 (.refl _ _) m ⟨a, vs, rfl, f1, by rw [List.append_nil]; exact q1⟩
    · exact p _ _ _ _ h.2 (.new hq) (m.new hq) ⟨q, vs ++ ts, rfl, .of upd_same, Reps.ext (.new hq) _ _ (q1.append q2)⟩
  · exact h.elim
/-- lists: a + b, a new list -/
def rCatS (K : PySem.W.Frag) : R2 := fun x y H Q => ∃ l b xs zs, x = .ref l ∧ y = .ref b ∧ SqL K H l xs ∧ SqL K H b zs ∧ xs.length + zs.length ≤ sizeLine ∧ ∀ p, H p = none → Q (.ref p) (upd H p (.lst (xs ++ zs)))
theorem op_catS : OpR X (binaryOp .Add) (rCatS X.K) := by
  intro pins s σ H x y v u Q I rx ry h
  obtain ⟨l, b, xs, zs, rfl, rfl, hl, hb, hz, q⟩ := h
  cases rx
  cases ry
  obtain ⟨its, r1, ⟨⟨c1, d1, t1, s1⟩, n1, e1, k1, k2, k3⟩, z1⟩ := I.list hl
  obtain ⟨jts, r2, ⟨⟨c2, d2, t2, s2⟩, n2, e2, j1, j2, j3⟩, z2⟩ := I.list hb
  simp only at k1 k2 k3 j1 j2 j3
  subst k1 k2 k3 j1 j2 j3
  have le : its.toArray.size + jts.toArray.size ≤ sizeLine := by rw [List.size_toArray, List.size_toArray, ← r1.length, ← r2.length]; exact hz
  refine concat_meets ⟨_, e1, rfl⟩ ⟨_, e2, rfl⟩ noFill_list_add seq_list_add PySem.F.slot_list_add PySem.F.entry_list_add (PySem.F.args_list_add_2 _ _) (list_addW l b its.toArray jts.toArray n1 n2 none none s1 s2 le) ⟨e1, e2, ?_⟩
  rw [show its.toArray ++ jts.toArray = (its ++ jts).toArray by simp]
  exact ⟨.ref _, _, I.lnew (t' := s.toks) (r1.append r2) (by rw [List.length_append]; exact hz), rfl, q _ I.fresh⟩
def dCat (ta tb : DE) : DA := fun env s R => ta env s fun x s1 => tb env s1 fun y s2 => match asL s2 x, asL s2 y with
  | some a, some b => a.length + b.length ≤ 1000000 ∧ R (a ++ b) s2
  | _, _ => False
theorem nl_cat {a b : Expr} {ta tb : DE} {pos : Pos} (ha : PD X a ta) (hb : PD X b tb) : PNL X (.BinOp a .Add b pos) (dCat ta tb) :=
  pe_imp (pe_op op_catS ha hb) fun σ H Q ⟨env, s, R, h1, h2, h3, h4⟩ => ⟨env, s, _, h1, h2, h3, fun x s1 v H1 q e1 m1 r1 => ⟨env, s1, _, h1.ext e1.ext, m1, q, fun y s2 u H2 q2 e2 m2 r2 => by
    split at q2
    · rename_i as bs ea eb
      obtain ⟨l, vs, rfl, f1, g1⟩ := asL_sq ea (Rep.ext e2.ext _ _ r1) m2
      obtain ⟨l2, ts, rfl, f2, g2⟩ := asL_sq eb r2 m2
      exact ⟨l, l2, vs, ts, rfl, rfl, f1, f2, by rw [← g1.len, ← g2.len]; exact Nat.le_trans q2.1 mil, fun p hp => h4 (as ++ bs) s2 (vs ++ ts) H2 q2.2 (e1.trans e2) m2 (g1.append g2) p hp⟩
    · exact q2.elim⟩⟩
/-- ints -/
def rI (C : Int → Int → Prop) (g : Int → Int → Int) : D2 := fun x y s R => match x, y with
  | .int i, .int j => C i j ∧ R (.int (g i j)) s
  | _, _ => False
theorem od_I {f : Value → Value → Sem Value} {C : Int → Int → Prop} {g : Int → Int → Int} (h : OpR X f (L2.rI C fun i j => .int (g i j))) : OpR X f (lift2 X.K (rI C g)) :=
  op_imp h fun x y H Q ⟨w, u, s, R, r1, r2, m, h, p⟩ => by
    unfold rI at h
    split at h
    · rename_i i j
      exact ⟨i, j, r1, r2, h.1, p _ _ _ _ h.2 (.refl _ _) m rfl⟩
    · exact h.elim
theorem od_I0 {f : Value → Value → Sem Value} {g : Int → Int → Int} (h : OpR X f (L2.rI0 fun i j => .int (g i j))) : OpR X f (lift2 X.K (rI (fun _ _ => True) g)) :=
  op_imp h fun x y H Q ⟨w, u, s, R, r1, r2, m, h, p⟩ => by
    unfold rI at h
    split at h
    · rename_i i j
      exact ⟨i, j, r1, r2, p _ _ _ _ h.2 (.refl _ _) m rfl⟩
    · exact h.elim
theorem od_sub : OpR X (binaryOp .Sub) (lift2 X.K (rI (fun _ _ => True) fun i j => i - j)) := od_I0 op_sub
theorem od_mul : OpR X (binaryOp .Mult) (lift2 X.K (rI CMul fun i j => i * j)) := od_I op_mul
theorem od_fdiv : OpR X (binaryOp .FloorDiv) (lift2 X.K (rI CDiv fun i j => i / j)) := od_I op_fdiv
theorem od_mod : OpR X (binaryOp .Mod) (lift2 X.K (rI (fun _ j => 0 < j) fun i j => i % j)) := od_I op_mod
theorem od_pow : OpR X (binaryOp .Pow) (lift2 X.K (rI CPow fun i j => i ^ j.toNat)) := od_I op_pow
/-- xs * k: xs a list that may change -/
def dRep (ta tb : DE) : DA := fun env s R => ta env s fun x s1 => tb env s1 fun y s2 => match x, y with
  | .ref l, .int k => (match s2.M l with
    | some (.lst ws) => -1000000 ≤ k ∧ k ≤ 1000000 ∧ ws.length * k.toNat ≤ 1000000 ∧ R (List.replicate k.toNat ws).flatten (s2.del l)
    | _ => False)
  | _, _ => False
theorem Reps.rep {K : PySem.W.Frag} {H : Hp} {ws : List D} {vs : List V} (h : Reps K H ws vs) : ∀ k : Nat, Reps K H (List.replicate k ws).flatten (List.replicate k vs).flatten
  | 0 => rfl
  | k + 1 => by rw [List.replicate_succ, List.replicate_succ, List.flatten_cons, List.flatten_cons]; exact h.append (Reps.rep h k)
theorem nl_rep {a b : Expr} {ta tb : DE} {pos : Pos} (ha : PD X a ta) (hb : PD X b tb) : PNL X (.BinOp a .Mult b pos) (dRep ta tb) :=
  pe_imp (pe_op op_rep ha hb) fun σ H Q ⟨env, s, R, h1, h2, h3, h4⟩ => ⟨env, s, _, h1, h2, h3, fun x s1 v H1 q e1 m1 r1 => ⟨env, s1, _, h1.ext e1.ext, m1, q, fun y s2 u H2 q2 e2 m2 r2 => by
    split at q2
    · rename_i l k
      cases (show v = .ref l from r1)
      cases (show u = .int k from r2)
      cases hm : s2.M l with
      | none => rw [hm] at q2; exact q2.elim
      | some o =>
        rw [hm] at q2
        cases o with
        | lst ws =>
          obtain ⟨vs, z1, z2⟩ := m2.at_ l _ hm
          obtain ⟨c1, c2, c3, c4⟩ := q2
          refine ⟨l, k, vs, rfl, rfl, z1, by omega, by omega, by rw [← z2.len]; exact Nat.le_trans c3 mil, fun p hp => h4 _ _ _ H2 c4 ((e1.trans e2).trans (.weak (fun b u e => ?_) rfl)) (m2.weak (fun b u e => ?_) (Nat.le_refl _) rfl) (z2.rep _) p hp⟩
          all_goals
            by_cases hb : b = l
            · subst hb; rw [show (s2.del b).M b = none from Mm.del_same] at e; cases e
            · rw [show (s2.del l).M b = s2.M b from Mm.del_ne hb] at e; exact e
        | _ => exact q2.elim
    · exact q2.elim⟩⟩

/-! ### comparisons -/
def rCmp (pi : Int → Int → Bool) (ps : List Nat → List Nat → Bool) : D2 := fun x y s R => match x, y with
  | .int i, .int j => R (.bl (pi i j)) s
  | .str a, .str b => R (.bl (ps a.cps.toList b.cps.toList)) s
  | _, _ => False
theorem od_lt : OpR X (compareOp .Lt) (lift2 X.K (rCmp (fun i j => decide (i < j)) fun a b => decide (a < b))) := by
  refine op_imp (op_lt.or op_lt_str) fun x y H Q ⟨w, u, s, R, r1, r2, m, h, p⟩ => ?_
  unfold rCmp at h
  split at h
  · exact .inl ⟨_, _, r1, r2, p _ _ _ _ h (.refl _ _) m rfl⟩
  · exact .inr ⟨_, _, r1, r2, p _ _ _ _ h (.refl _ _) m rfl⟩
  · exact h.elim
theorem od_le : OpR X (compareOp .LtE) (lift2 X.K (rCmp (fun i j => decide (i ≤ j)) fun a b => !decide (b < a))) := by
  refine op_imp (op_le.or op_le_str) fun x y H Q ⟨w, u, s, R, r1, r2, m, h, p⟩ => ?_
  unfold rCmp at h
  split at h
  · exact .inl ⟨_, _, r1, r2, p _ _ _ _ h (.refl _ _) m rfl⟩
  · exact .inr ⟨_, _, r1, r2, p _ _ _ _ h (.refl _ _) m rfl⟩
  · exact h.elim
theorem od_gt : OpR X (compareOp .Gt) (lift2 X.K (rCmp (fun i j => decide (j < i)) fun a b => decide (b < a))) := by
  refine op_imp (op_gt.or op_gt_str) fun x y H Q ⟨w, u, s, R, r1, r2, m, h, p⟩ => ?_
  unfold rCmp at h
  split at h
  · exact .inl ⟨_, _, r1, r2, p _ _ _ _ h (.refl _ _) m rfl⟩
  · exact .inr ⟨_, _, r1, r2, p _ _ _ _ h (.refl _ _) m rfl⟩
  · exact h.elim
theorem od_ge : OpR X (compareOp .GtE) (lift2 X.K (rCmp (fun i j => decide (j ≤ i)) fun a b => !decide (a < b))) := by
  refine op_imp (op_ge.or op_ge_str) fun x y H Q ⟨w, u, s, R, r1, r2, m, h, p⟩ => ?_
  unfold rCmp at h
  split at h
  · exact .inl ⟨_, _, r1, r2, p _ _ _ _ h (.refl _ _) m rfl⟩
  · exact .inr ⟨_, _, r1, r2, p _ _ _ _ h (.refl _ _) m rfl⟩
  · exact h.elim
/-- == of deep data; of two ints, two texts, two bools plainly -/
def rEqv (g : Bool → Bool) : D2 := fun x y s R => match x, y with
  | .int i, .int j => R (.bl (g (decide (i = j)))) s
  | .str i, .str j => R (.bl (g (decide (i = j)))) s
  | .bl i, .bl j => R (.bl (g (decide (i = j)))) s
  | x, y => (match pyOf s x, pyOf s y with
    | some d, some e => SeqAt.shaped d = true ∧ SeqAt.shaped e = true ∧ R (.bl (g (PyData.eqv d e))) s
    | _, _ => False)
theorem od_eq (hu : X.A.units + 64 < cLine) : OpR X (compareOp .Eq) (lift2 X.K (rEqv id)) := by
  refine op_imp (op_eq.or (op_eqD hu)) fun x y H Q ⟨w, u, s, R, r1, r2, m, h, p⟩ => ?_
  unfold rEqv at h
  split at h
  · cases r1; cases r2; exact .inl ⟨rfl, by rw [dec_int, Bool.beq_eq_decide_eq]; exact p _ _ _ _ h (.refl _ _) m rfl⟩
  · cases r1; cases r2; exact .inl ⟨rfl, by rw [dec_str, Bool.beq_eq_decide_eq]; exact p _ _ _ _ h (.refl _ _) m rfl⟩
  · cases r1; cases r2; exact .inl ⟨rfl, by rw [dec_bl, Bool.beq_eq_decide_eq]; exact p _ _ _ _ h (.refl _ _) m rfl⟩
  · split at h
    · rename_i d e hd he
      exact .inr ⟨d, e, pyOf_dp hd r1 m, pyOf_dp he r2 m, h.1, h.2.1, p _ _ _ _ h.2.2 (.refl _ _) m rfl⟩
    · exact h.elim
theorem od_ne (hu : X.A.units + 64 < cLine) : OpR X (compareOp .NotEq) (lift2 X.K (rEqv (!·))) := by
  refine op_imp (op_ne.or (op_neD hu)) fun x y H Q ⟨w, u, s, R, r1, r2, m, h, p⟩ => ?_
  unfold rEqv at h
  split at h
  · cases r1; cases r2; exact .inl ⟨rfl, by rw [dec_int, Bool.beq_eq_decide_eq]; exact p _ _ _ _ h (.refl _ _) m rfl⟩
  · cases r1; cases r2; exact .inl ⟨rfl, by rw [dec_str, Bool.beq_eq_decide_eq]; exact p _ _ _ _ h (.refl _ _) m rfl⟩
  · cases r1; cases r2; exact .inl ⟨rfl, by rw [dec_bl, Bool.beq_eq_decide_eq]; exact p _ _ _ _ h (.refl _ _) m rfl⟩
  · split at h
    · rename_i d e hd he
      exact .inr ⟨d, e, pyOf_dp hd r1 m, pyOf_dp he r2 m, h.1, h.2.1, p _ _ _ _ h.2.2 (.refl _ _) m rfl⟩
    · exact h.elim
def isNon : D → Bool
  | .non => true
  | _ => false
theorem isNon_rep {K : PySem.W.Frag} {H : Hp} {w : D} {v : V} (r : Rep K H w v) : decide (v = .non) = isNon w := by
  cases w with
  | non => cases r; rfl
  | bl _ => cases r; rfl
  | int _ => cases r; rfl
  | str _ => cases r; rfl
  | tup _ => obtain ⟨a, vs, rfl, _⟩ := r; rfl
  | lst _ => obtain ⟨a, vs, rfl, _⟩ := r; rfl
  | dic _ _ => obtain ⟨a, vs, o, rfl, _⟩ := r; rfl
  | ref _ => cases r; rfl
  | ty _ => cases r; rfl
def rIsN (g : Bool → Bool) : D2 := fun x y s R => match y with
  | .non => R (.bl (g (isNon x))) s
  | _ => False
theorem od_is : OpR X (compareOp .Is) (lift2 X.K (rIsN id)) := by
  refine op_imp op_isN fun x y H Q ⟨w, u, s, R, r1, r2, m, h, p⟩ => ?_
  unfold rIsN at h
  split at h
  · exact ⟨r2, by rw [isNon_rep r1]; exact p _ _ _ _ h (.refl _ _) m rfl⟩
  · exact h.elim
theorem od_isnot : OpR X (compareOp .IsNot) (lift2 X.K (rIsN (!·))) := by
  refine op_imp op_notN fun x y H Q ⟨w, u, s, R, r1, r2, m, h, p⟩ => ?_
  unfold rIsN at h
  split at h
  · exact ⟨r2, by rw [isNon_rep r1]; exact p _ _ _ _ h (.refl _ _) m rfl⟩
  · exact h.elim
end
end Dz
namespace Dz
open PySem PySem.Spec PyProof.Rows L2

/-! ### statements -/
section
variable {X : Cx} {pos : Pos}
def dNx : DS := fun D env s => D.nx env s
def dSeq (t u : DS) : DS := fun D env s => t { D with nx := u D } env s
def dBrk : DS := fun D env s => D.bk env s
def dCnt : DS := fun D env s => D.ct env s
def dRet (te : DE) : DS := fun D env s => te env s D.rt
def dRetN : DS := fun D _ s => D.rt .non s
def dExpr (te : DE) : DS := fun D env s => te env s fun _ s1 => D.nx env s1
def dIf (c : DT) (t u : DS) : DS := fun D env s => c env s fun b s1 => if b = true then t D env s1 else u D env s1
theorem pds_nil : PDSs X [] dNx := pss_imp pss_nil fun D σ H ⟨env, s, DD, h1, h2, h3, h4⟩ => h4.nx env s σ H h3 (.refl _ _) h2 h1
theorem pds_cons {st : Stmt} {rest : List Stmt} {t u : DS} (h : PDS X st t) (hr : PDSs X rest u) : PDSs X (st :: rest) (dSeq t u) :=
  pss_imp (pss_cons h hr) fun D σ H ⟨env, s, DD, h1, h2, h3, h4⟩ => ⟨env, s, { DD with nx := u DD }, h1, h2, h3, ⟨fun env' s' σ' H' q e m r => ⟨env', s', DD, r, m, q, h4.ext e⟩, h4.rt, h4.bk, h4.ct⟩⟩
theorem pds_one {st : Stmt} {t : DS} (h : PDS X st t) : PDSs X [st] t := pss_one h
theorem pd_pass : PDS X (.Pass pos) dNx := ps_imp ps_pass fun D σ H ⟨env, s, DD, h1, h2, h3, h4⟩ => h4.nx env s σ H h3 (.refl _ _) h2 h1
theorem pd_brk : PDS X (.Break pos) dBrk := ps_imp ps_break fun D σ H ⟨env, s, DD, h1, h2, h3, h4⟩ => h4.bk env s σ H h3 (.refl _ _) h2 h1
theorem pd_cnt : PDS X (.Continue pos) dCnt := ps_imp ps_continue fun D σ H ⟨env, s, DD, h1, h2, h3, h4⟩ => h4.ct env s σ H h3 (.refl _ _) h2 h1
theorem pd_ret {e : Expr} {te : DE} (h : PD X e te) : PDS X (.Return (some e) pos) (dRet te) := ps_imp (ps_ret h) fun D σ H ⟨env, s, DD, h1, h2, h3, h4⟩ => ⟨env, s, _, h1, h2, h3, h4.rt⟩
theorem pd_retN : PDS X (.Return none pos) dRetN := ps_imp ps_retN fun D σ H ⟨env, s, DD, h1, h2, h3, h4⟩ => h4.rt .non s _ H h3 (.refl _ _) h2 rfl
theorem pd_expr {e : Expr} {te : DE} (h : PD X e te) (hs : swapsWith e none pos.line X.env = pure false := by rfl) : PDS X (.Expr e pos) (dExpr te) :=
  ps_imp (ps_expr h hs) fun D σ H ⟨env, s, DD, h1, h2, h3, h4⟩ => ⟨env, s, _, h1, h2, h3, fun w s1 v H1 q e m r => h4.nx env s1 σ H1 q e m (h1.ext e.ext)⟩
theorem pd_if {c : Expr} {a b : List Stmt} {tc : DT} {t u : DS} (hc : PDT X c tc) (ha : PDSs X a t) (hb : PDSs X b u) : PDS X (.If c a b pos) (dIf tc t u) :=
  ps_imp (ps_if hc ha hb) fun D σ H ⟨env, s, DD, h1, h2, h3, h4⟩ => ⟨env, s, _, h1, h2, h3, fun b s1 H1 q e m => by
    cases b with
    | true => rw [if_pos rfl] at q ⊢; exact ⟨env, s1, DD, h1.ext e.ext, m, q, h4.ext e⟩
    | false => rw [if_neg Bool.false_ne_true] at q ⊢; exact ⟨env, s1, DD, h1.ext e.ext, m, q, h4.ext e⟩⟩

/-! ### targets -/
abbrev DG := D → Ev → Sg → (Ev → Sg → Prop) → Prop
abbrev DGs := List D → Ev → Sg → (Ev → Sg → Prop) → Prop
def liftG (K : PySem.W.Frag) (g : DG) : TG := fun v σ H Q => ∃ w env s R, Rep K H w v ∧ REnv K H env σ ∧ MRep K H s ∧ g w env s R ∧ PostN K H s R Q
def liftGs (K : PySem.W.Frag) (g : DGs) : TGs := fun v σ H Q => ∃ w env s R, Reps K H w v ∧ REnv K H env σ ∧ MRep K H s ∧ g w env s R ∧ PostN K H s R Q
/-- a V-level target serves a deep one -/
def GI (K : PySem.W.Frag) (g : DG) (gv : TG) : Prop := ∀ v σ H Q, liftG K g v σ H Q → gv v σ H Q
def GIs (K : PySem.W.Frag) (g : DGs) (gv : TGs) : Prop := ∀ v σ H Q, liftGs K g v σ H Q → gv v σ H Q
abbrev PDG (X : Cx) (tg : Expr) (g : DG) : Prop := PG X tg (liftG X.K g)
abbrev PDGs (X : Cx) (tg : List Expr) (g : DGs) : Prop := PGs X tg (liftGs X.K g)
theorem pg_imp {tg : Expr} {g g' : TG} (h : PG X tg g) (hi : ∀ v σ H Q, g' v σ H Q → g v σ H Q) : PG X tg g' := ⟨fun pins s σ H v u Q I r q => h.run pins s σ H v u Q I r (hi v σ H Q q)⟩
theorem pgs_imp {tg : List Expr} {g g' : TGs} (h : PGs X tg g) (hi : ∀ v σ H Q, g' v σ H Q → g v σ H Q) : PGs X tg g' := ⟨fun pins s σ H v u Q I r q => h.run pins s σ H v u Q I r (hi v σ H Q q)⟩
def dgN (i : Nat) : DG := fun w env s R => R (env.set i (some w)) s
def dgNil : DGs := fun ws env s R => match ws with
  | [] => R env s
  | _ => False
def dgCons (g : DG) (gs : DGs) : DGs := fun ws env s R => match ws with
  | w :: r => g w env s fun env' s' => gs r env' s' R
  | [] => False
def dgT (n : Nat) (gs : DGs) : DG := fun w env s R => match asQ s w with
  | some ws => ws.length = n ∧ gs ws env s R
  | none => False
theorem gi_name {K : PySem.W.Frag} (i : Nat) : GI K (dgN i) (L2.gName i) := fun v σ H Q ⟨w, env, s, R, r, h1, h2, h3, h4⟩ => h4 _ s _ H h3 (.refl _ _) h2 (h1.set i r)
theorem gi_nil {K : PySem.W.Frag} : GIs K dgNil L2.gNil := fun v σ H Q ⟨w, env, s, R, r, h1, h2, h3, h4⟩ => by
  cases w with
  | nil => exact ⟨r, h4 _ s _ H h3 (.refl _ _) h2 h1⟩
  | cons _ _ => exact h3.elim
theorem pdg_name {i : Nat} {x : Str} (hN : X.N.Nodup) (hi : X.N[i]? = some x) (hx : Loc X.env.scope x) (hf : X.fn x = true ∨ X.env.scope.names.lookup x = some .local := by first | exact .inl rfl | exact .inr rfl | assumption) : PDG X (.Name x pos) (dgN i) := pg_imp (pg_name hN hi hx hf) (gi_name i)
theorem pdgs_nil : PDGs X [] dgNil := pgs_imp pgs_nil gi_nil
theorem pdgs_cons {e : Expr} {es : List Expr} {g : DG} {gs : DGs} (h1 : PDG X e g) (h2 : PDGs X es gs)
    (hs : (assignEach (e :: es) X.env).map (·.2) = assign e X.env :: (assignEach es X.env).map (·.2) := by rfl) : PDGs X (e :: es) (dgCons g gs) :=
  pgs_imp (pgs_cons h1 h2 hs) fun v σ H Q ⟨w, env, s, R, r, h1, h2, h3, h4⟩ => by
    cases w with
    | nil => exact h3.elim
    | cons w ws =>
      obtain ⟨v1, vr, rfl, r1, r2⟩ := r
      exact ⟨v1, vr, rfl, w, env, s, _, r1, h1, h2, h3, fun env' s' σ' H' q e m rr => ⟨ws, env', s', R, Reps.ext e.ext _ _ r2, rr, m, q, h4.ext e⟩⟩
theorem pdg_tup {es : List Expr} {k : Nat} {gs : DGs} {n : Nat} (hc : X.calm = true) (h : PDGs X es gs)
    (hn : (assignEach es X.env).length = n := by rfl) (hst : (assignEach es X.env).findIdx? (·.1) = none := by rfl) : PDG X (.Tuple es k pos) (dgT n gs) :=
  ⟨fun pins s σ H v u Q I r ⟨w, env, sg, R, rw', h1, h2, h3, h4⟩ => by
    unfold dgT at h3
    split at h3
    · rename_i ws e
      cases w with
      | tup us =>
        cases e
        obtain ⟨a, vs, e1, f, q⟩ := rw'
        exact (pg_tup hc h hn hst).run pins s σ H v u Q I r ⟨a, vs, e1, f, by rw [← q.len]; exact h3.1, ws, env, sg, R, q, h1, h2, h3.2, h4⟩
      | lst us =>
        obtain ⟨a, vs, e1, f, q⟩ := asL_sq (s := sg) (show asL sg (.lst us) = some ws from e) rw' h2
        exact (pg_unl hc h hn hst).run pins s σ H v u Q I r ⟨a, vs, e1, f, by rw [← q.len]; exact h3.1, ws, env, sg, R, q, h1, h2, h3.2, h4⟩
      | ref b =>
        obtain ⟨a, vs, e1, f, q⟩ := asL_sq (s := sg) (show asL sg (.ref b) = some ws from e) rw' h2
        exact (pg_unl hc h hn hst).run pins s σ H v u Q I r ⟨a, vs, e1, f, by rw [← q.len]; exact h3.1, ws, env, sg, R, q, h1, h2, h3.2, h4⟩
      | _ => cases e
    · exact h3.elim⟩
/-! assignments -/
def dAsg (te : DE) (g : DG) : DS := fun D env s => te env s fun w s1 => g w env s1 D.nx
def dSet (i : Nat) (te : DE) : DS := fun D env s => te env s fun w s1 => D.nx (env.set i (some w)) s1
theorem pd_set {i : Nat} {x : Str} {e : Expr} {te : DE} {pos' : Pos} (hN : X.N.Nodup) (hi : X.N[i]? = some x) (hx : Loc X.env.scope x) (he : PD X e te) (hs : swapsWith e (some (.Name x pos')) pos.line X.env = pure false := by rfl)
    (hf : X.fn x = true ∨ X.env.scope.names.lookup x = some .local := by first | exact .inl rfl | exact .inr rfl | assumption) : PDS X (.Assign [.Name x pos'] e pos) (dSet i te) :=
  ps_imp (ps_set hN hi hx he hs hf) fun D σ H ⟨env, s, DD, h1, h2, h3, h4⟩ => ⟨env, s, _, h1, h2, h3, fun w s1 v H1 q e m r => h4.nx _ s1 _ H1 q e m ((h1.ext e.ext).set i r)⟩
theorem pd_asg {tg e : Expr} {te : DE} {g : DG} (he : PD X e te) (hg : PDG X tg g) (hs : swapsWithSole [tg] e pos.line X.env = pure false := by rfl) (hw : swappedStores [tg] e X.env = pure none := by rfl)
    (h1 : (assignEach [tg] X.env).map (·.2) = [assign tg X.env] := by rfl) : PDS X (.Assign [tg] e pos) (dAsg te g) :=
  ps_imp (ps_asg he hg hs hw h1) fun D σ H ⟨env, s, DD, h1, h2, h3, h4⟩ => ⟨env, s, _, h1, h2, h3, fun w s1 v H1 q e m r => ⟨w, env, s1, _, r, h1.ext e.ext, m, q, h4.nx.ext e⟩⟩
def dPar (i j : Nat) (ta : DA) : DS := fun D env s => ta env s fun ws s1 => match ws with
  | [u, w] => D.nx ((env.set i (some u)).set j (some w)) s1
  | _ => False
def dPar3 (i j l : Nat) (ta : DA) : DS := fun D env s => ta env s fun ws s1 => match ws with
  | [u, w, z] => D.nx (((env.set i (some u)).set j (some w)).set l (some z)) s1
  | _ => False
theorem pd_par {i j : Nat} {x y : Str} {a b : Expr} {ta : DA} {px py pt : Pos} {kt k2 pt2} (hc : X.calm = true) (hN : X.N.Nodup) (hi : X.N[i]? = some x) (hj : X.N[j]? = some y) (hij : i ≠ j)
    (hx : X.env.scope.names.lookup x = some .local) (hy : X.env.scope.names.lookup y = some .local) (ha : PDA X [a, b] ta)
    (hw : swappedStores [.Tuple [.Name x px, .Name y py] kt pt] (.Tuple [a, b] k2 pt2) X.env = pure (some [x, y]) := by rfl)
    (hs : swapsWithSole [.Tuple [.Name x px, .Name y py] kt pt] (.Tuple [a, b] k2 pt2) pos.line X.env = pure false := by rfl) :
    PDS X (.Assign [.Tuple [.Name x px, .Name y py] kt pt] (.Tuple [a, b] k2 pt2) pos) (dPar i j ta) :=
  ps_imp (ps_par hc hN hi hj hij hx hy ha hw hs) fun D σ H ⟨env, s, DD, h1, h2, h3, h4⟩ => ⟨env, s, _, h1, h2, h3, fun ws s1 vs H1 q e m r => by
    split at q
    · obtain ⟨v1, r1, rfl, q1, q2⟩ := r
      obtain ⟨v2, r2, rfl, q3, q4⟩ := q2
      cases (show r2 = [] from q4)
      exact ⟨v1, v2, rfl, h4.nx _ s1 _ H1 q e m (((h1.ext e.ext).set i q1).set j q3)⟩
    · exact q.elim⟩
theorem pd_par3 {i j l : Nat} {x y z : Str} {a b c : Expr} {ta : DA} {px py pz pt : Pos} {kt k2 pt2} (hc : X.calm = true) (hN : X.N.Nodup) (hi : X.N[i]? = some x) (hj : X.N[j]? = some y) (hl : X.N[l]? = some z) (hij : i ≠ j) (hil : i ≠ l) (hjl : j ≠ l)
    (hx : X.env.scope.names.lookup x = some .local) (hy : X.env.scope.names.lookup y = some .local) (hz : X.env.scope.names.lookup z = some .local) (ha : PDA X [a, b, c] ta)
    (hw : swappedStores [.Tuple [.Name x px, .Name y py, .Name z pz] kt pt] (.Tuple [a, b, c] k2 pt2) X.env = pure (some [x, y, z]) := by rfl)
    (hs : swapsWithSole [.Tuple [.Name x px, .Name y py, .Name z pz] kt pt] (.Tuple [a, b, c] k2 pt2) pos.line X.env = pure false := by rfl) :
    PDS X (.Assign [.Tuple [.Name x px, .Name y py, .Name z pz] kt pt] (.Tuple [a, b, c] k2 pt2) pos) (dPar3 i j l ta) :=
  ps_imp (ps_par3 hc hN hi hj hl hij hil hjl hx hy hz ha hw hs) fun D σ H ⟨env, s, DD, h1, h2, h3, h4⟩ => ⟨env, s, _, h1, h2, h3, fun ws s1 vs H1 q e m r => by
    split at q
    · obtain ⟨v1, r1, rfl, q1, q2⟩ := r
      obtain ⟨v2, r2, rfl, q3, q4⟩ := q2
      obtain ⟨v3, r3, rfl, q5, q6⟩ := q4
      cases (show r3 = [] from q6)
      exact ⟨v1, v2, v3, rfl, h4.nx _ s1 _ H1 q e m ((((h1.ext e.ext).set i q1).set j q3).set l q5)⟩
    · exact q.elim⟩
end

/-! ### what is walked -/
def asI (s : Sg) : D → Option (List D)
  | .str x => some (x.cps.toList.map fun c => .str ⟨#[c]⟩)
  | w => asQ s w
/-- an iterator that hands out ws, as long as w stands -/
def ItOk (K : PySem.W.Frag) (J : It) (H : Hp) (w : D) (ws : List D) : Prop := ∀ H' s', Ext H H' → MRep K H' s' → asI s' w = some ws → ∀ i : Nat,
  (∀ x, ws[i]? = some x → J.go i H' ∧ ∀ v H2, J.yld i H' v H2 → Rep K H2 x v ∧ Stp H' s' H2 s' ∧ MRep K H2 s' ∧ ∀ b o, H' b = some o → H2 b = some o) ∧ (ws.length ≤ i → J.stop i H')
abbrev DI := Ev → Sg → (D → List D → Sg → Prop) → Prop
def liftI (K : PySem.W.Frag) (t : DI) : TI := fun σ H R => ∃ env s R', REnv K H env σ ∧ MRep K H s ∧ t env s R' ∧ ∀ w ws s1 H1 J, R' w ws s1 → Stp H s H1 s1 → MRep K H1 s1 → asI s1 w = some ws → ItOk K J H1 w ws → R J H1
abbrev PDI (X : Cx) (tg iter : Expr) (t : DI) : Prop := PI X tg iter (liftI X.K t)
theorem asI_lst {s : Sg} {ws : List D} : asI s (.lst ws) = some ws := rfl
theorem itok_list {K : PySem.W.Frag} {H : Hp} {w : D} {ws : List D} {a : Addr} (r : Rep K H w (.ref a)) (hL : ∀ s, asI s w = asL s w) : ItOk K (Itl K a) H w ws := fun H' s' e m hw i => by
  obtain ⟨b, vs, e1, f, q⟩ := asL_sq (s := s') (by rw [← hL]; exact hw) (Rep.ext e _ _ r) m
  cases e1
  refine ⟨fun x hx => ?_, fun hi => ⟨vs, f, by rw [← q.len]; exact hi⟩⟩
  obtain ⟨v, hv, rv⟩ := q.get hx
  refine ⟨⟨vs, v, f, hv⟩, fun v' H2 ⟨e2, y⟩ => ?_⟩
  subst e2
  have := y vs f
  rw [hv] at this
  cases this
  exact ⟨rv, .refl _ _, m, fun _ _ z => z⟩
theorem itok_tup {K : PySem.W.Frag} {H : Hp} {us ws : List D} {a : Addr} (r : Rep K H (.tup us) (.ref a)) : ItOk K (Itt K a) H (.tup us) ws := fun H' s' e m hw i => by
  cases hw
  obtain ⟨b, vs, e1, f, q⟩ := Rep.ext e _ _ r
  cases e1
  refine ⟨fun x hx => ?_, fun hi => ⟨vs, f, by rw [← q.len]; exact hi⟩⟩
  obtain ⟨v, hv, rv⟩ := q.get hx
  refine ⟨⟨vs, v, f, hv⟩, fun v' H2 ⟨e2, y⟩ => ?_⟩
  subst e2
  have := y vs f
  rw [hv] at this
  cases this
  exact ⟨rv, .refl _ _, m, fun _ _ z => z⟩
theorem itok_str {K : PySem.W.Frag} {H : Hp} {x : Str} {ws : List D} : ItOk K (Its x) H (.str x) ws := fun H' s' e m hw i => by
  cases hw
  refine ⟨fun y hy => ?_, fun hi => by show x.cps.size ≤ i; simpa using hi⟩
  rw [List.getElem?_map] at hy
  obtain ⟨c, hc, rfl⟩ := Option.map_eq_some_iff.mp hy
  have hi : i < x.cps.size := by
    have := (List.getElem?_eq_some_iff.mp hc).1
    simpa using this
  refine ⟨hi, fun v' H2 ⟨e2, d, hd, z⟩ => ?_⟩
  subst e2
  have : x.cps[i]? = some c := by simpa using hc
  rw [this] at hd
  cases hd
  exact ⟨z, .refl _ _, m, fun _ _ z => z⟩
section
variable {X : Cx} {tg : Expr}
theorem it_any {pins : List (Addr × Obj)} {σ : L2.St} {H : Hp} {s : Shared} {R : It → Hp → Prop} {sg : Sg} {w : D} {ws : List D} {v : V} {u : Value} (I : Inv X pins σ H s) (ru : RelV v u) (r : Rep X.K H w v) (m : MRep X.K H sg) (h : asI sg w = some ws)
    (q : ∀ J, ItOk X.K J H w ws → R J H) : wpAny (model X.prog X.w) X.A (pyIter u) (PIE X pins σ tg R) X.xe s := by
  have lists : ∀ a vs, v = .ref a → SqL X.K H a vs → R (Itl X.K a) H → wpAny (model X.prog X.w) X.A (pyIter u) (PIE X pins σ tg R) X.xe s := fun a vs e f z => by
    subst e
    cases ru
    obtain ⟨its, rv, p, hz⟩ := I.list f
    exact wpAny_pyIter_list p.isList (pi_one (tk := s.toks) I _ (turn_list a _) ⟨_, Heap.get?_push_size _ rfl, rfl, rfl⟩ z)
  cases w with
  | str x =>
    cases (show v = .str x from r)
    obtain ⟨t, rfl⟩ := ru
    cases ha : x.cps.all (· < 128)
    · exact wpAny_pyIter_wide ha (pi_one (tk := s.toks) I _ (turn_str _ x t "str_iterator" (.inr rfl)) ⟨_, Heap.get?_push_size _ rfl, rfl, rfl⟩ (q _ itok_str))
    · exact wpAny_pyIter_ascii ha (pi_one (tk := s.toks) I _ (turn_str _ x t "str_ascii_iterator" (.inl rfl)) ⟨_, Heap.get?_push_size _ rfl, rfl, rfl⟩ (q _ itok_str))
  | tup us =>
    obtain ⟨a, vs, rfl, f, g⟩ := id r
    cases ru
    obtain ⟨its, rv, p, hz⟩ := I.tuple f
    exact wpAny_pyIter_tuple (show s.heap.IsTuple a its.toArray from p) (pi_one (tk := s.toks) I _ (turn_tuple a _) ⟨_, Heap.get?_push_size _ rfl, rfl, rfl⟩ (q _ (itok_tup r)))
  | lst us =>
    obtain ⟨a, vs, e, f, g⟩ := asL_sq (s := sg) (ws := us) rfl r m
    exact lists a vs e f (q _ (itok_list (e ▸ r) fun _ => rfl))
  | ref b =>
    obtain ⟨a, vs, e, f, g⟩ := asL_sq (s := sg) (ws := ws) (show asL sg (.ref b) = some ws from h) r m
    exact lists a vs e f (q _ (itok_list (e ▸ r) fun _ => rfl))
  | _ => cases h
def dIt (te : DE) : DI := fun env s R => te env s fun w s1 => match asI s1 w with
  | some ws => R w ws s1
  | none => False
theorem pdi_it {e : Expr} {te : DE} (h : PD X e te) : PDI X tg e (dIt te) := by
  refine ⟨fun pins s σ H R I ⟨env, sg, R', h1, h2, h3, h4⟩ => ?_⟩
  have key : liftE X.K te σ H (fun v H1 => ∃ w ws s1, asI s1 w = some ws ∧ R' w ws s1 ∧ Stp H sg H1 s1 ∧ MRep X.K H1 s1 ∧ Rep X.K H1 w v) := by
    refine ⟨env, sg, _, h1, h2, h3, fun w s1 v H1 q e m r => ?_⟩
    split at q
    · rename_i ws hw
      exact ⟨w, ws, s1, hw, q, e, m, r⟩
    · exact q.elim
  refine thn (h.run pins s σ H _ I key) fun u s' ⟨v, H1, I1, ru, w, ws, s1, hw, q, e, m, r⟩ => ?_
  exact it_any I1 ru r m hw fun J z => h4 w ws s1 H1 J q e m hw z
/-- range -/
def rg (lo : Int) (n : Nat) : List D := (List.range n).map fun k : Nat => .int (lo + k)
theorem itok_range {K : PySem.W.Frag} {H : Hp} {lo : Int} {n : Nat} {ws : List D} : ItOk K (Itr lo n) H (.lst (rg lo n)) ws := fun H' s' e m hw i => by
  cases hw
  refine ⟨fun y hy => ?_, fun hi => by show n ≤ i; simpa [rg] using hi⟩
  unfold rg at hy
  rw [List.getElem?_map] at hy
  obtain ⟨k, hk, rfl⟩ := Option.map_eq_some_iff.mp hy
  have hi : i < n := by have := (List.getElem?_eq_some_iff.mp hk).1; simpa using this
  rw [List.getElem?_range hi] at hk
  cases hk
  refine ⟨hi, fun v' H2 ⟨e2, z⟩ => ?_⟩
  subst e2
  exact ⟨z, .refl _ _, m, fun _ _ z => z⟩
def dRng1 (ta : DA) : DI := fun env s R => ta env s fun ws s1 => match ws with
  | [.int j] => -1000000000 < j ∧ j < 1000000000 ∧ R (.lst (rg 0 j.toNat)) (rg 0 j.toNat) s1
  | _ => False
def dRng2 (ta : DA) : DI := fun env s R => ta env s fun ws s1 => match ws with
  | [.int i, .int j] => (-1000000000 < i ∧ i < 1000000000 ∧ -1000000000 < j ∧ j < 1000000000) ∧ R (.lst (rg i (j - i).toNat)) (rg i (j - i).toNat) s1
  | _ => False
theorem pdi_range1 {a : Expr} {ta : DA} {p pos : Pos} (hg : Gl X "range") (hm : X.mg "range" = none) (ha : PDA X [a] ta) (hs : starEach [a] X.env = [(false, eval a X.env)] := by rfl) : PDI X tg (.Call (.Name "range" p) [a] [] pos) (dRng1 ta) :=
  ⟨fun pins s σ H R I ⟨env, sg, R', h1, h2, h3, h4⟩ => (pi_range1 hg hm ha hs).run pins s σ H R I ⟨env, sg, _, h1, h2, h3, fun ws s1 vs H1 q e m r => by
    split at q
    · rename_i j
      obtain ⟨v, vr, rfl, r1, r2⟩ := r
      cases (show vr = [] from r2)
      cases (show v = .int j from r1)
      exact ⟨j, rfl, by omega, by omega, h4 _ _ s1 H1 _ q.2.2 e m rfl itok_range⟩
    · exact q.elim⟩⟩
theorem pdi_range2 {a b : Expr} {ta : DA} {p pos : Pos} (hg : Gl X "range") (hm : X.mg "range" = none) (ha : PDA X [a, b] ta) (hs : starEach [a, b] X.env = [(false, eval a X.env), (false, eval b X.env)] := by rfl) (hs2 : starEach [b] X.env = [(false, eval b X.env)] := by rfl) :
    PDI X tg (.Call (.Name "range" p) [a, b] [] pos) (dRng2 ta) :=
  ⟨fun pins s σ H R I ⟨env, sg, R', h1, h2, h3, h4⟩ => (pi_range2 hg hm ha hs hs2).run pins s σ H R I ⟨env, sg, _, h1, h2, h3, fun ws s1 vs H1 q e m r => by
    split at q
    · rename_i i j
      obtain ⟨v, vr, rfl, r1, r2⟩ := r
      obtain ⟨v2, vr2, rfl, r3, r4⟩ := r2
      cases (show vr2 = [] from r4)
      cases (show v = .int i from r1)
      cases (show v2 = .int j from r3)
      exact ⟨i, j, rfl, by omega, h4 _ _ s1 H1 _ q.2 e m rfl itok_range⟩
    · exact q.elim⟩⟩

/-! ### for -/
def dForL (w : D) (ws : List D) (g : DG) (tb : DS) (DD : DEnds) : List D → Ev → Sg → Prop
  | [], env, s => asI s w = some ws ∧ DD.nx env s
  | x :: r, env, s => asI s w = some ws ∧ g x env s fun env' s' => tb { DD with nx := dForL w ws g tb DD r, ct := dForL w ws g tb DD r, bk := DD.nx } env' s'
def dFor (ti : DI) (g : DG) (tb : DS) : DS := fun DD env s => ti env s fun w ws s1 => dForL w ws g tb DD ws env s1
theorem dForL_alive {w : D} {ws : List D} {g : DG} {tb : DS} {DD : DEnds} {l : List D} {env : Ev} {s : Sg} (h : dForL w ws g tb DD l env s) : asI s w = some ws := by cases l <;> exact h.1
theorem pd_for {iter : Expr} {body : List Stmt} {ti : DI} {g : DG} {tb : DS} {pos : Pos} (hp : PassesOwn (model X.prog X.w) X.A X.env X.xe) (hc : X.calm = true) (hi : PDI X tg iter ti) (hg : PDG X tg g) (hb : PDSs X body tb)
    (hs : ∀ x, foldedSetIterable iter X.env x = pure x := by intro _; rfl) : PDS X (.For tg iter body [] pos) (dFor ti g tb) :=
  ps_imp (ps_for hp hc hi hg hb hs) fun D σ H ⟨env, s, DD, h1, h2, h3, h4⟩ => ⟨env, s, _, h1, h2, h3, fun w ws s1 H1 J q e1 m1 hw ok => by
    refine ⟨fun i m σ' H' => m = ws.length - i ∧ i ≤ ws.length ∧ ∃ env' s', REnv X.K H' env' σ' ∧ MRep X.K H' s' ∧ Stp H1 s1 H' s' ∧ dForL w ws g tb DD (ws.drop i) env' s',
      ⟨_, rfl, Nat.zero_le _, env, s1, h1.ext e1.ext, m1, .refl _ _, q⟩, ?_⟩
    rintro i m σ' H' ⟨rfl, hi, env', s', r', m', e', q'⟩
    obtain ⟨o1, o2⟩ := ok H' s' e'.ext m' (dForL_alive q') i
    by_cases hlt : i < ws.length
    · obtain ⟨go, yl⟩ := o1 ws[i] (by simp [hlt])
      rw [List.drop_eq_getElem_cons hlt] at q'
      refine .inr ⟨go, fun σ2 H2 => ∃ env2 s2, REnv X.K H2 env2 σ2 ∧ MRep X.K H2 s2 ∧ Stp H1 s1 H2 s2 ∧ dForL w ws g tb DD (ws.drop (i + 1)) env2 s2, fun σ2 H2 z => ⟨ws.length - (i + 1), by omega, rfl, hlt, z⟩, fun v H2 y => ?_⟩
      obtain ⟨rv, e2, m2, _⟩ := yl v H2 y
      have e3 := e'.trans e2
      refine ⟨ws[i], env', s', _, rv, r'.ext e2.ext, m2, q'.2, fun env2 s2 σ2 H3 q2 e4 m4 r4 => ?_⟩
      exact ⟨env2, s2, _, r4, m4, q2, ⟨fun env5 s5 σ5 H5 q5 e5 m5 r5 => ⟨env5, s5, r5, m5, (e3.trans e4).trans e5, q5⟩, h4.rt.ext (e1.trans (e3.trans e4)), h4.nx.ext (e1.trans (e3.trans e4)), fun env5 s5 σ5 H5 q5 e5 m5 r5 => ⟨env5, s5, r5, m5, (e3.trans e4).trans e5, q5⟩⟩⟩
    · have ei : i = ws.length := by omega
      subst ei
      rw [List.drop_length] at q'
      exact .inl ⟨o2 (Nat.le_refl _), h4.nx env' s' σ' H' q'.2 (e1.trans e') m' r'⟩⟩
/-- while, with the fuel of its turns -/
def dWhileN (c : DT) (tb : DS) (DD : DEnds) : Nat → Ev → Sg → Prop
  | 0, _, _ => False
  | n + 1, env, s => c env s fun b s1 => if b = true then tb { DD with nx := dWhileN c tb DD n, ct := dWhileN c tb DD n, bk := DD.nx } env s1 else DD.nx env s1
def dWhile (c : DT) (tb : DS) : DS := fun DD env s => ∃ n, dWhileN c tb DD n env s
theorem pd_while {c : Expr} {body : List Stmt} {tc : DT} {tb : DS} {pos : Pos} (hp : PassesOwn (model X.prog X.w) X.A X.env X.xe) (hc : PDT X c tc) (hb : PDSs X body tb) : PDS X (.While c body [] pos) (dWhile tc tb) :=
  ps_imp (ps_while hp hc hb) fun D σ H ⟨env, s, DD, h1, h2, ⟨n, h3⟩, h4⟩ => by
    refine ⟨fun m σ' H' => ∃ env' s', REnv X.K H' env' σ' ∧ MRep X.K H' s' ∧ Stp H s H' s' ∧ dWhileN tc tb DD m env' s', ⟨n, env, s, h1, h2, .refl _ _, h3⟩, ?_⟩
    rintro m σ' H' ⟨env', s', r', m', e', q'⟩
    cases m with
    | zero => exact q'.elim
    | succ m =>
      refine ⟨env', s', _, r', m', q', fun b s2 H2 q2 e2 m2 => ?_⟩
      cases b with
      | true =>
        rw [if_pos rfl] at q2 ⊢
        refine ⟨fun σ5 H5 => ∃ env5 s5, REnv X.K H5 env5 σ5 ∧ MRep X.K H5 s5 ∧ Stp H s H5 s5 ∧ dWhileN tc tb DD m env5 s5, fun σ5 H5 z => ⟨m, Nat.lt_succ_self _, z⟩, env', s2, _, r'.ext e2.ext, m2, q2, ?_⟩
        exact ⟨fun env5 s5 σ5 H5 q5 e5 m5 r5 => ⟨env5, s5, r5, m5, (e'.trans e2).trans e5, q5⟩, h4.rt.ext (e'.trans e2), h4.nx.ext (e'.trans e2), fun env5 s5 σ5 H5 q5 e5 m5 r5 => ⟨env5, s5, r5, m5, (e'.trans e2).trans e5, q5⟩⟩
      | false =>
        rw [if_neg Bool.false_ne_true] at q2 ⊢
        exact h4.nx env' s2 σ' H2 q2 (e'.trans e2) m2 (r'.ext e2.ext)
end
end Dz
namespace Dz
open PySem PySem.Spec PyProof.Rows L2

/-! ### comprehensions -/
def wipeD (env : Ev) : List Nat → Ev
  | [] => env
  | v :: vs => (wipeD env vs).set v none
theorem REnv.setN {K : PySem.W.Frag} {H : Hp} {env : Ev} {σ : L2.St} (i : Nat) (h : REnv K H env σ) : REnv K H (env.set i none) (σ.set i none) := by
  refine ⟨by rw [List.length_set, List.length_set]; exact h.1, fun j u q => ?_⟩
  rw [List.getElem?_set] at q
  rw [List.getElem?_set]
  split at q
  · split at q <;> cases q
  · rename_i ne
    rw [if_neg ne]
    exact h.2 j u q
theorem REnv.wipe {K : PySem.W.Frag} {H : Hp} {env : Ev} {σ : L2.St} (h : REnv K H env σ) : ∀ vs : List Nat, REnv K H (wipeD env vs) (L2.wipe σ vs)
  | [] => h
  | v :: vs => (REnv.wipe h vs).setN v
theorem wipe_set_out {σ : L2.St} {i : Nat} {x : Option V} : ∀ {vs : List Nat}, i ∉ vs → L2.wipe (σ.set i x) vs = (L2.wipe σ vs).set i x
  | [], _ => rfl
  | v :: vs, h => by
    unfold L2.wipe
    rw [wipe_set_out (vs := vs) fun q => h (List.mem_cons_of_mem _ q), List.set_comm _ _ (fun e => h (by rw [e]; exact List.mem_cons_self))]
theorem wipe_set {σ : L2.St} {i : Nat} {x : Option V} : ∀ {vs : List Nat}, i ∈ vs → L2.wipe (σ.set i x) vs = L2.wipe σ vs
  | v :: vs, h => by
    unfold L2.wipe
    by_cases hm : i ∈ vs
    · rw [wipe_set hm]
    · rw [wipe_set_out hm]
      rcases List.mem_cons.mp h with e | e
      · subst e; rw [List.set_set]
      · exact absurd e hm
theorem wipe_idem {σ : L2.St} {vs : List Nat} : ∀ (us : List Nat), (∀ u ∈ us, u ∈ vs) → L2.wipe (L2.wipe σ us) vs = L2.wipe σ vs
  | [], _ => rfl
  | u :: us, h => by
    show L2.wipe ((L2.wipe σ us).set u none) vs = _
    rw [wipe_set (h u List.mem_cons_self), wipe_idem us fun z hz => h z (List.mem_cons_of_mem _ hz)]
structure Wi (vs : List Nat) (g : TG) : Prop where
  mono : ∀ v σ H (Q Q' : L2.St → Hp → Prop), (∀ σ H, Q σ H → Q' σ H) → g v σ H Q → g v σ H Q'
  wi : ∀ v σ H (Q : L2.St → Hp → Prop), g v σ H Q → g v σ H fun σ2 H2 => L2.wipe σ2 vs = L2.wipe σ vs ∧ Q σ2 H2
structure Wis (vs : List Nat) (g : TGs) : Prop where
  mono : ∀ v σ H (Q Q' : L2.St → Hp → Prop), (∀ σ H, Q σ H → Q' σ H) → g v σ H Q → g v σ H Q'
  wi : ∀ v σ H (Q : L2.St → Hp → Prop), g v σ H Q → g v σ H fun σ2 H2 => L2.wipe σ2 vs = L2.wipe σ vs ∧ Q σ2 H2
theorem wi_name {vs : List Nat} {i : Nat} (h : i ∈ vs) : Wi vs (L2.gName i) := ⟨fun v σ H Q Q' k q => k _ _ q, fun v σ H Q q => ⟨wipe_set h, q⟩⟩
theorem wi_nil {vs : List Nat} : Wis vs L2.gNil := ⟨fun v σ H Q Q' k q => ⟨q.1, k _ _ q.2⟩, fun v σ H Q q => ⟨q.1, rfl, q.2⟩⟩
theorem wi_cons {vs : List Nat} {g : TG} {gs : TGs} (a : Wi vs g) (b : Wis vs gs) : Wis vs (L2.gCons g gs) :=
  ⟨fun v σ H Q Q' k ⟨x, r, e, q⟩ => ⟨x, r, e, a.mono _ _ _ _ _ (fun σ1 H1 z => b.mono _ _ _ _ _ k z) q⟩,
   fun v σ H Q ⟨x, r, e, q⟩ => ⟨x, r, e, a.mono _ _ _ _ _ (fun σ1 H1 ⟨e1, z⟩ => b.mono _ _ _ _ _ (fun σ2 H2 ⟨e2, z2⟩ => ⟨e2.trans e1, z2⟩) (b.wi _ _ _ _ z)) (a.wi _ _ _ _ q)⟩⟩
theorem wi_tup {vs : List Nat} {K : PySem.W.Frag} {n : Nat} {gs : TGs} (b : Wis vs gs) : Wi vs (L2.gTup K n gs) :=
  ⟨fun v σ H Q Q' k ⟨a, xs, e1, e2, e3, q⟩ => ⟨a, xs, e1, e2, e3, b.mono _ _ _ _ _ k q⟩, fun v σ H Q ⟨a, xs, e1, e2, e3, q⟩ => ⟨a, xs, e1, e2, e3, b.wi _ _ _ _ q⟩⟩
def dgTt (n : Nat) (gs : DGs) : DG := fun w env s R => match w with
  | .tup ws => ws.length = n ∧ gs ws env s R
  | _ => False
theorem gi_cons {K : PySem.W.Frag} {g : DG} {gs : DGs} {gv : TG} {gvs : TGs} (a : GI K g gv) (b : GIs K gs gvs) : GIs K (dgCons g gs) (L2.gCons gv gvs) := fun v σ H Q ⟨w, env, s, R, r, h1, h2, h3, h4⟩ => by
  cases w with
  | nil => exact h3.elim
  | cons w ws =>
    obtain ⟨v1, vr, rfl, r1, r2⟩ := r
    exact ⟨v1, vr, rfl, a _ _ _ _ ⟨w, env, s, _, r1, h1, h2, h3, fun env' s' σ' H' q e m rr => b _ _ _ _ ⟨ws, env', s', R, Reps.ext e.ext _ _ r2, rr, m, q, h4.ext e⟩⟩⟩
theorem gi_tup {K : PySem.W.Frag} {n : Nat} {gs : DGs} {gvs : TGs} (b : GIs K gs gvs) : GI K (dgTt n gs) (L2.gTup K n gvs) := fun v σ H Q ⟨w, env, s, R, r, h1, h2, h3, h4⟩ => by
  cases w with
  | tup ws =>
    obtain ⟨a, vs, rfl, f, q⟩ := r
    exact ⟨a, vs, rfl, f, by rw [← q.len]; exact h3.1, b _ _ _ _ ⟨ws, env, s, R, q, h1, h2, h3.2, h4⟩⟩
  | _ => exact h3.elim

def hid (H : Hp) (a : Addr) : Hp := fun b => if b = a then none else H b
theorem hid_same {H : Hp} {a : Addr} : hid H a a = none := if_pos rfl
theorem hid_ne {H : Hp} {a b : Addr} (h : b ≠ a) : hid H a b = H b := if_neg h
theorem hid_back {H : Hp} {a : Addr} {o : HO} (h : H a = some o) : upd (hid H a) a o = H := by
  funext b
  unfold upd hid
  by_cases e : b = a
  · rw [if_pos e, e, h]
  · rw [if_neg e, if_neg e]
theorem ext_hid {H : Hp} {a : Addr} (h : Mut (H a)) : Ext H (hid H a) :=
  ⟨fun b xs e => by rw [hid_ne (fun z => by subst z; rw [e] at h; exact h)]; exact e, fun b o u e => by rw [hid_ne (fun z => by subst z; rw [e] at h; exact h)]; exact e⟩
/-- an object aside, not tracked: it may be changed, or hidden -/
theorem MRep.side {K : PySem.W.Frag} {H H' : Hp} {s : Sg} {p : Addr} (m : MRep K H s) (e : Ext H H') (k : ∀ b, b ≠ p → H' b = H b) (hp : s.M p = none) (hv : p ∉ s.pv) : MRep K H' s := by
  have na : ∀ b o, s.M b = some o → b ≠ p := fun b o h z => by subst z; rw [hp] at h; cases h
  have nv : ∀ b ∈ s.pv, b ≠ p := fun b h z => by subst z; exact hv h
  refine ⟨fun a o h => ?_, m.one, fun b hb => by rw [k b (nv b hb)]; exact m.pvs b hb⟩
  have q := m.at_ a o h
  have ka := k a (na a o h)
  cases o with
  | lst ws => obtain ⟨vs, h1, h2⟩ := q; exact ⟨vs, ka.trans h1, Reps.ext e _ _ h2⟩
  | dic ks ws => obtain ⟨vs, h1, h2, h3⟩ := q; exact ⟨vs, ka.trans h1, h2, Reps.ext e _ _ h3⟩
  | ins C ns ws => obtain ⟨dx, vs, h1, h2, h3⟩ := q; exact ⟨dx, vs, ka.trans h1, h2, Reps.ext e _ _ h3⟩
  | box I =>
    obtain ⟨st, vs, h0, h1, h2, h3⟩ := q
    exact ⟨st, vs, h0, ka.trans h1, h2.keep fun b hb => k b (nv b hb), h3⟩
theorem Stp.side {H1 H H' : Hp} {s1 s : Sg} {p : Addr} (t : Stp H1 s1 H s) (e : Ext H H') (h1 : H1 p = none) (k : ∀ b, b ≠ p → H' b = H b) : Stp H1 s1 H' s :=
  ⟨t.ext.trans e, fun b o h2 h3 h4 h5 => by obtain ⟨x, y, z⟩ := t.fr b o h2 h3 h4 h5; exact ⟨(k b (ne_of_none h2 h1)).trans x, y, z⟩⟩

def dLcL (w : D) (ws : List D) (g : DG) (tt : DT) (te : DE) (vs : List Nat) (env : Ev) (R : List D → Sg → Prop) : List D → List D → Sg → Prop
  | [], acc, s => asI s w = some ws ∧ R acc s
  | x :: r, acc, s => asI s w = some ws ∧ g x (wipeD env vs) s fun env2 s2 => tt env2 s2 fun b s3 => if b = true then te env2 s3 fun y s4 => acc.length < 1000000 ∧ dLcL w ws g tt te vs env R r (acc ++ [y]) s4 else dLcL w ws g tt te vs env R r acc s3
def dLc (ti : DI) (g : DG) (tt : DT) (te : DE) (vs : List Nat) : DA := fun env s R => ti env s fun w ws s1 => dLcL w ws g tt te vs env R ws [] s1
theorem dLcL_alive {w : D} {ws : List D} {g : DG} {tt : DT} {te : DE} {vs : List Nat} {env : Ev} {R : List D → Sg → Prop} {l acc : List D} {s : Sg} (h : dLcL w ws g tt te vs env R l acc s) : asI s w = some ws := by cases l <;> exact h.1
theorem mil1 {n : Nat} (h : n < 1000000) : n < sizeLine := Nat.lt_of_lt_of_le h mil
theorem lc_imp {K : PySem.W.Frag} {ti : DI} {g : DG} {gv : TG} {tt : DT} {te : DE} {vs : List Nat} (gi : GI K g gv) (wi : Wi vs gv) : ∀ σ H Q, tNew (liftA K (dLc ti g tt te vs)) σ H Q → tLc (liftI K ti) gv (liftT K tt) (liftE K te) vs σ H Q := fun σ H Q ⟨env, s, R, h1, h2, h3, h4⟩ => by
  refine ⟨env, s, _, h1, h2, h3, fun w ws s1 H1 J q e1 m1 hw ok => ?_⟩
  intro L hL
  refine ⟨fun i m H' => m = ws.length - i ∧ i ≤ ws.length ∧ ∃ s' acc us, H' L = some (.lst us) ∧ Reps K H' acc us ∧ MRep K H' s' ∧ s'.M L = none ∧ L ∉ s'.pv ∧ Stp H1 s1 H' s' ∧ dLcL w ws g tt te vs env R (ws.drop i) acc s',
    ⟨_, rfl, Nat.zero_le _, s1, [], [], upd_same, rfl, m1.new hL, m1.free hL, m1.npv hL, .new hL, q⟩, ?_⟩
  rintro i m H' ⟨rfl, hi, s', acc, us, z1, z2, z3, z4, z5, z6, z7⟩
  obtain ⟨o1, o2⟩ := ok H' s' z6.ext z3 (dLcL_alive z7) i
  have mu : Mut (H' L) := by rw [z1]; trivial
  by_cases hlt : i < ws.length
  · obtain ⟨go, yl⟩ := o1 ws[i] (by simp [hlt])
    rw [List.drop_eq_getElem_cons hlt] at z7
    refine .inr ⟨go, fun H2 => ∃ s2 acc2 us2, H2 L = some (.lst us2) ∧ Reps K H2 acc2 us2 ∧ MRep K H2 s2 ∧ s2.M L = none ∧ L ∉ s2.pv ∧ Stp H1 s1 H2 s2 ∧ dLcL w ws g tt te vs env R (ws.drop (i + 1)) acc2 s2, fun H2 z => ⟨ws.length - (i + 1), by omega, rfl, hlt, z⟩, fun v H2 y => ?_⟩
    obtain ⟨rv, e2, m2, kp⟩ := yl v H2 y
    refine wi.mono _ _ _ _ _ (fun σ2 H3 z => ⟨z.1.trans (wipe_idem vs fun _ h => h), z.2⟩) (wi.wi _ _ _ _ ?_)
    refine gi _ _ _ _ ⟨ws[i], wipeD env vs, s', _, rv, REnv.wipe (((h1.ext e1.ext).ext z6.ext).ext e2.ext) vs, m2, z7.2, fun env2 s2 σ2 H3 q2 e3 m3 r3 => ?_⟩
    refine ⟨env2, s2, _, r3, m3, q2, fun b s3 H4 q3 e4 m4 => ?_⟩
    cases b with
    | true =>
      rw [if_pos rfl] at q3 ⊢
      refine ⟨env2, s3, _, r3.ext e4.ext, m4, q3, fun yy s4 v5 H5 q5 e5 m5 r5 => ?_⟩
      have et := e2.trans (e3.trans (e4.trans e5))
      obtain ⟨f1, f2, f3⟩ := et.fr L _ z1 trivial z4 z5
      have mu5 : Mut (H5 L) := by rw [f1]; trivial
      have ex : Ext H5 (upd H5 L (.lst (us ++ [v5]))) := .put mu5
      have rs := Reps.append (Reps.ext et.ext _ _ z2) (show Reps K H5 [yy] [v5] from ⟨v5, [], rfl, r5, rfl⟩)
      exact ⟨us, f1, by rw [← z2.len]; exact mil1 q5.1, s4, acc ++ [yy], us ++ [v5], upd_same, Reps.ext ex _ _ rs, m5.side ex (fun b hb => upd_ne hb) f2 f3, f2, f3, (z6.trans et).side ex hL fun b hb => upd_ne hb, q5.2⟩
    | false =>
      rw [if_neg Bool.false_ne_true] at q3 ⊢
      have et := e2.trans (e3.trans e4)
      obtain ⟨f1, f2, f3⟩ := et.fr L _ z1 trivial z4 z5
      exact ⟨s3, acc, us, f1, Reps.ext et.ext _ _ z2, m4, f2, f3, z6.trans et, q3⟩
  · have ei : i = ws.length := by omega
    subst ei
    rw [List.drop_length] at z7
    refine .inl ⟨o2 (Nat.le_refl _), ?_⟩
    have := h4 acc s' us (hid H' L) z7.2 (e1.trans (z6.side (ext_hid mu) hL fun b hb => hid_ne hb)) (z3.side (ext_hid mu) (fun b hb => hid_ne hb) z4 z5) (Reps.ext (ext_hid mu) _ _ z2) L hid_same
    rw [hid_back z1] at this
    exact this
section
variable {X : Cx}
abbrev PDTs (X : Cx) (ifs : List Expr) (t : DT) : Prop := PTs X ifs (liftT X.K t)
def dYes : DT := fun _ s R => R true s
theorem pdts_nil : PDTs X [] dYes := ⟨fun pins s σ H Q I ⟨env, sg, R, h1, h2, h3, h4⟩ => pts_nil.run pins s σ H Q I (h4 true sg H h3 (.refl _ _) h2)⟩
theorem pdts_one {c : Expr} {t : DT} (h : PDT X c t) : PDTs X [c] t := pts_one h
theorem nl_lc {elt tg iter : Expr} {ifs : List Expr} {scope : Scope} {own : List (Str × Nat)} {pos : Pos} {ti : DI} {g : DG} {gv : TG} {tt : DT} {te : DE} (gi : GI X.K g gv) (wi : Wi (own.map (·.2)) gv) (hc : X.calm = true) (hN : X.N.Nodup) (hi : PDI X tg iter ti) (ok : BlkOk X.N X.env.scope scope own)
    (hg : ∀ (s : Shared) (H : Hp) (C : Addr) (cl : List (Str × Addr)) (fp : List Addr), PG (X.blk s H scope (compEnvC scope cl C X.env) fp) tg gv) (ht : ∀ (s : Shared) (H : Hp) (C : Addr) (cl : List (Str × Addr)) (fp : List Addr), PDTs (X.blk s H scope (compEnvC scope cl C X.env) fp) ifs tt)
    (he : ∀ (s : Shared) (H : Hp) (C : Addr) (cl : List (Str × Addr)) (fp : List Addr), PD (X.blk s H scope (compEnvC scope cl C X.env) fp) elt te) (hs : ∀ x, foldedSetIterable iter X.env x = pure x := by intro _; rfl) :
    PNL X (.ListComp elt [⟨tg, iter, ifs, 0⟩] scope pos) (dLc ti g tt te (own.map (·.2))) := pe_imp (pe_lc hc hN hi ok hg ht he hs) (lc_imp gi wi)
/-- name = [..], the list a value -/
theorem pd_setF {st : Stmt} {t : TE} {dt : DA} {i : Nat} (h : PS X st (tAsg t (L2.gName i))) (ht : ∀ σ H Q, tNew (liftA X.K dt) σ H Q → t σ H Q) : PDS X st (dSet i (dF dt)) := ⟨fun pins s σ H DE0 I ⟨env, sg, DD, h1, h2, h3, h4⟩ => by
  refine wpAny_mono (h.run pins s σ H { nx := fun σ' H' => ∃ (p : Addr) (vs : List V) (ws : List D) (s1 : Sg) (H1 : Hp), σ' = σ.set i (some (V.ref p)) ∧ H' = upd H1 p (HO.lst vs) ∧ H1 p = none ∧ DD.nx (env.set i (some (D.lst ws))) s1 ∧ Stp H sg H1 s1 ∧ MRep X.K H1 s1 ∧ Reps X.K H1 ws vs, rt := DE0.rt, bk := DE0.bk, ct := DE0.ct } I ?_) (fun f s' hf => ?_) fun _ _ z => z
  · exact ht σ H _ ⟨env, sg, _, h1, h2, h3, fun ws s1 vs H1 q e m r p hp => ⟨p, vs, ws, s1, H1, rfl, rfl, hp, q, e, m, r⟩⟩
  · cases f with
    | next =>
      obtain ⟨σ', H', I', p, vs, ws, s1, H1, rfl, rfl, hp, q, e, m, r⟩ := hf
      obtain ⟨o, I2⟩ := inv_freeze I' (upd_same (o := HO.lst vs)) trivial
      rw [upd_upd] at I2
      exact ⟨_, _, I2, h4.nx _ s1 _ _ q (e.trans (.new hp)) (m.new hp) (((h1.ext e.ext).ext (.new hp)).set i ⟨p, vs, rfl, .inl (.inr ⟨o, fz_frz upd_same⟩), Reps.ext (.new hp) _ _ r⟩)⟩
    | brk => exact hf
    | cont => exact hf
    | ret u => exact hf⟩
theorem pd_setM {st : Stmt} {t : TE} {dt : DA} {i : Nat} (h : PS X st (tAsg t (L2.gName i))) (ht : ∀ σ H Q, tNew (liftA X.K dt) σ H Q → t σ H Q) : PDS X st (dSet i (dM dt)) :=
  ps_imp h fun D σ H ⟨env, s, DD, h1, h2, h3, h4⟩ => ht σ H _ ⟨env, s, _, h1, h2, h3, fun ws s1 vs H1 q e m r p hp =>
    h4.nx _ _ _ _ (q p (m.free hp)) (e.trans (.put (.inl hp))) (m.write (.inl hp) (fun _ => nofun) ⟨vs, upd_same, Reps.ext (.new hp) _ _ r⟩) (((h1.ext e.ext).ext (.new hp)).set i rfl)⟩
end
end Dz
namespace Dz
open PySem PySem.Spec PyProof.Rows L2

/-! ### a value, or a new list that is locked -/
def tFrzO (t : TE) : TE := fun σ H Q => t σ H fun v H1 => Q v H1 ∨ ∃ a z, v = .ref a ∧ H1 a = some z ∧ Mut (some z) ∧ ∀ o, Q v (upd H1 a (.frz o z))
section
variable {X : Cx}
theorem pe_frzO {e : Expr} {t : TE} (h : PE X e t) : PE X e (tFrzO t) := ⟨fun pins s σ H Q I q => thn (h.run pins s σ H _ I q) fun u s' ⟨v, H1, I1, r, k⟩ => by
  rcases k with k | ⟨a, z, e1, e2, e3, k⟩
  · exact ⟨v, H1, I1, r, k⟩
  · obtain ⟨o, I2⟩ := inv_freeze I1 e2 e3
    exact ⟨v, _, I2, r, k o⟩⟩
/-- Q behind a new list that is locked at once -/
theorem frz_new {K : PySem.W.Frag} {H H1 : Hp} {s s1 : Sg} {R : KD} {Q : VK} {ws : List D} {vs : List V} {p : Addr} (h4 : Post K H s R Q) (q : R (.lst ws) s1) (e : Stp H s H1 s1) (m : MRep K H1 s1) (r : Reps K H1 ws vs) (hp : H1 p = none) :
    ∃ a z, V.ref p = .ref a ∧ upd H1 p (.lst vs) a = some z ∧ Mut (some z) ∧ ∀ o, Q (.ref p) (upd (upd H1 p (.lst vs)) a (.frz o z)) :=
  ⟨p, _, rfl, upd_same, trivial, fun o => by
    rw [upd_upd]
    exact h4 (.lst ws) s1 (.ref p) _ q (e.trans (.new hp)) (m.new hp) ⟨p, vs, rfl, .inl (.inr ⟨o, fz_frz upd_same⟩), Reps.ext (.new hp) _ _ r⟩⟩
/-- a + b of anything; lists give a locked list -/
def rAddU : D2 := fun x y s R => match x, y with
  | .int i, .int j => R (.int (i + j)) s
  | .str a, .str b => a.length + b.length ≤ 1000000 ∧ R (.str (a ++ b)) s
  | .tup a, .tup b => a.length + b.length ≤ 1000000 ∧ R (.tup (a ++ b)) s
  | x, y => (match asL s x, asL s y with
    | some a, some b => a.length + b.length ≤ 1000000 ∧ R (.lst (a ++ b)) s
    | _, _ => False)
theorem pd_add {a b : Expr} {ta tb : DE} {pos : Pos} (ha : PD X a ta) (hb : PD X b tb) : PD X (.BinOp a .Add b pos) (dOp rAddU ta tb) :=
  pe_imp (pe_frzO (pe_op ((op_add.or op_add_str).or (op_catA.or op_catS)) ha hb)) fun σ H Q ⟨env, s, R, h1, h2, h3, h4⟩ => by
    refine ⟨env, s, _, h1, h2, h3, fun x s1 v H1 q e1 m1 r1 => ⟨env, s1, _, h1.ext e1.ext, m1, q, fun y s2 u H2 q2 e2 m r2 => ?_⟩⟩
    have r1' := Rep.ext e2.ext _ _ r1
    have e12 := e1.trans e2
    unfold rAddU at q2
    split at q2
    · rename_i i j
      exact .inl (.inl ⟨i, j, r1', r2, .inl (h4 _ _ _ _ q2 e12 m rfl)⟩)
    · rename_i a b
      exact .inl (.inr ⟨a, b, r1', r2, Nat.le_trans q2.1 mil, .inl (h4 _ _ _ _ q2.2 e12 m rfl)⟩)
    · rename_i ws us
      obtain ⟨a, vs, rfl, f1, q1⟩ := r1'
      obtain ⟨b, ts, rfl, f2, g2⟩ := r2
      have hl : vs.length + ts.length ≤ sizeLine := by rw [← q1.len, ← g2.len]; exact Nat.le_trans q2.1 mil
      refine .inr (.inl ⟨a, b, vs, ts, rfl, rfl, f1, f2, hl, fun e => .inl ?_, fun _ e => .inl ?_, fun _ _ q hq => .inl ?_⟩)
      · subst e
        have e0 : ws = [] := List.length_eq_zero_iff.mp q1.len
        subst e0
        exact h4 _ _ _ _ q2.2 e12 m ⟨b, ts, rfl, f2, g2⟩
      · subst e
        have e0 : us = [] := List.length_eq_zero_iff.mp g2.len
        subst e0
        exact h4 _ _ _ _ q2.2 e12 m ⟨a, vs, rfl, f1, by rw [List.append_nil]; exact q1⟩
      · exact h4 _ _ _ _ q2.2 (e12.trans (.new hq)) (m.new hq) ⟨q, vs ++ ts, rfl, .of upd_same, Reps.ext (.new hq) _ _ (q1.append g2)⟩
    · split at q2
      · rename_i as bs ea eb
        obtain ⟨l, vs, rfl, f1, g1⟩ := asL_sq ea r1' m
        obtain ⟨l2, ts, rfl, f2, g2⟩ := asL_sq eb r2 m
        exact .inr (.inr ⟨l, l2, vs, ts, rfl, rfl, f1, f2, by rw [← g1.len, ← g2.len]; exact Nat.le_trans q2.1 mil, fun p hp => .inr (frz_new h4 q2.2 e12 m (g1.append g2) hp)⟩)
      · exact q2.elim
/-- a * b: ints; a list that was just made and an int -/
def rMulU : D2 := fun x y s R => match x, y with
  | .int i, .int j => CMul i j ∧ R (.int (i * j)) s
  | .ref l, .int k => (match s.M l with
    | some (.lst ws) => -1000000 ≤ k ∧ k ≤ 1000000 ∧ ws.length * k.toNat ≤ 1000000 ∧ R (.lst (List.replicate k.toNat ws).flatten) (s.del l)
    | _ => False)
  | _, _ => False
theorem del_sub {s : Sg} {l : Addr} : ∀ b u, (s.del l).M b = some u → s.M b = some u := fun b u e => by
  by_cases hb : b = l
  · subst hb; rw [show (s.del b).M b = none from Mm.del_same] at e; cases e
  · rw [show (s.del l).M b = s.M b from Mm.del_ne hb] at e; exact e
theorem pd_mul {a b : Expr} {ta tb : DE} {pos : Pos} (ha : PD X a ta) (hb : PD X b tb) : PD X (.BinOp a .Mult b pos) (dOp rMulU ta tb) :=
  pe_imp (pe_frzO (pe_op (op_mul.or op_rep) ha hb)) fun σ H Q ⟨env, s, R, h1, h2, h3, h4⟩ => by
    refine ⟨env, s, _, h1, h2, h3, fun x s1 v H1 q e1 m1 r1 => ⟨env, s1, _, h1.ext e1.ext, m1, q, fun y s2 u H2 q2 e2 m r2 => ?_⟩⟩
    have r1' := Rep.ext e2.ext _ _ r1
    have e12 := e1.trans e2
    unfold rMulU at q2
    split at q2
    · rename_i i j
      exact .inl ⟨i, j, r1', r2, q2.1, .inl (h4 _ _ _ _ q2.2 e12 m rfl)⟩
    · rename_i l k
      cases (show v = .ref l from r1')
      cases (show u = .int k from r2)
      cases hm : s2.M l with
      | none => rw [hm] at q2; exact q2.elim
      | some o =>
        rw [hm] at q2
        cases o with
        | lst ws =>
          obtain ⟨vs, z1, z2⟩ := m.at_ l _ hm
          obtain ⟨c1, c2, c3, c4⟩ := q2
          exact .inr ⟨l, k, vs, rfl, rfl, z1, by omega, by omega, by rw [← z2.len]; exact Nat.le_trans c3 mil, fun p hp => .inr (frz_new h4 c4 (e12.trans (.weak del_sub rfl)) (m.weak del_sub (Nat.le_refl _) rfl) (z2.rep _) hp)⟩
        | _ => exact q2.elim
    · exact q2.elim

/-! ### subscripts -/
theorem atI_len {α β : Type} {xs : List α} {ys : List β} (h : xs.length = ys.length) (i : Int) : ixN xs.length i = ixN ys.length i := by rw [h]
theorem Reps.atI {K : PySem.W.Frag} {H : Hp} {ws : List D} {vs : List V} {i : Int} {w : D} (r : Reps K H ws vs) (h : L2.atI ws i = some w) : ∃ v, L2.atI vs i = some v ∧ Rep K H w v := by
  unfold L2.atI at h ⊢
  rw [r.len] at h
  obtain ⟨j, e1, e2⟩ := Option.bind_eq_some_iff.mp h
  obtain ⟨v, e3, e4⟩ := r.get e2
  exact ⟨v, Option.bind_eq_some_iff.mpr ⟨j, e1, e3⟩, e4⟩
def rIxU : D2 := fun x y s R => match y with
  | .int i => (match x with
    | .str z => z.length ≤ 1000000 ∧ (match L2.atI z.cps.toList i with
      | some c => R (.str ⟨#[c]⟩) s
      | none => False)
    | x => (match asQ s x with
      | some ws => (match L2.atI ws i with
        | some w => R w s
        | none => False)
      | none => False))
  | _ => False
theorem ix_imp {r r' : R2} (h : IxR X r) (hi : ∀ x y H Q, r' x y H Q → r x y H Q) : IxR X r' := fun va sl pins s σ H x y v u Q I rx ry q hs => h va sl pins s σ H x y v u Q I rx ry (hi x y H Q q) hs
theorem pd_ix {a b : Expr} {ta tb : DE} {pos : Pos} (ha : PD X a ta) (hb : PD X b tb) (hs : PlainIx b) : PD X (.Subscript a b pos) (dOp rIxU ta tb) := by
  refine pe_imp (pe_ix (r := lift2 X.K rIxU) (ix_imp ix_seq fun x y H Q ⟨w, u, s, R, r1, r2, m, h, p⟩ => ?_) ha hb hs) (dOp_imp X.K rIxU ta tb)
  unfold rIxU at h
  split at h
  · rename_i i
    split at h
    · rename_i z
      split at h
      · rename_i c hc
        exact .inr (.inr ⟨z, i, c, r1, r2, Nat.le_trans h.1 mil, hc, p _ _ _ _ h.2 (.refl _ _) m rfl⟩)
      · exact h.2.elim
    · split at h
      · rename_i ws hw
        split at h
        · rename_i x' hx
          obtain ⟨a, vs, e, f, g⟩ := asQ_sq hw r1 m
          obtain ⟨v', e1, e2⟩ := g.atI hx
          rcases f with f | f
          · exact .inl ⟨a, vs, i, v', e, r2, f, e1, p _ _ _ _ h (.refl _ _) m e2⟩
          · exact .inr (.inl ⟨a, vs, i, v', e, r2, f, e1, p _ _ _ _ h (.refl _ _) m e2⟩)
        · exact h.elim
      · exact h.elim
  · exact h.elim
/-! slices -/
abbrev DO := Ev → Sg → (Option Int → Sg → Prop) → Prop
def dNoPart : DO := fun _ s R => R none s
def dPart (t : DE) : DO := fun env s R => t env s fun w s1 => match w with
  | .int i => R (some i) s1
  | _ => False
def PostO (K : PySem.W.Frag) (H : Hp) (s0 : Sg) (R : Option Int → Sg → Prop) (Q : Option Int → Hp → Prop) : Prop := ∀ b s H', R b s → Stp H s0 H' s → MRep K H' s → Q b H'
def liftO (K : PySem.W.Frag) (t : DO) : TO := fun σ H Q => ∃ env s R, REnv K H env σ ∧ MRep K H s ∧ t env s R ∧ PostO K H s R Q
abbrev PDO (X : Cx) (e : Option Expr) (t : DO) : Prop := PO X e (liftO X.K t)
theorem po_imp {e : Option Expr} {t t' : TO} (h : PO X e t) (hi : ∀ σ H Q, t' σ H Q → t σ H Q) : PO X e t' := by
  obtain ⟨run⟩ := h
  constructor
  intros
  apply run
  · assumption
  · apply hi; assumption
theorem pdo_none : PDO X none dNoPart := po_imp po_none fun σ H Q ⟨env, s, R, h1, h2, h3, h4⟩ => h4 none s H h3 (.refl _ _) h2
theorem pdo_some {e : Expr} {t : DE} (h : PD X e t) : PDO X (some e) (dPart t) := po_imp (po_some h) fun σ H Q ⟨env, s, R, h1, h2, h3, h4⟩ => ⟨env, s, _, h1, h2, h3, fun w s1 v H1 q e m r => by
  split at q
  · rename_i i
    exact ⟨i, r, h4 _ s1 H1 q e m⟩
  · exact q.elim⟩
def cutD (xs : List D) (lo hi : Option Int) : List D := (xs.drop (HT.sIx xs.length 0 lo)).take (HT.sIx xs.length xs.length hi - HT.sIx xs.length 0 lo)
theorem Reps.cut {K : PySem.W.Frag} {H : Hp} {ws : List D} {vs : List V} (r : Reps K H ws vs) (lo hi : Option Int) : Reps K H (cutD ws lo hi) (cutV vs lo hi) := by
  unfold cutD cutV
  rw [r.len]
  exact (r.drop _).take _
theorem cutD_whole {ws : List D} {lo hi : Option Int} (h : HT.sIx ws.length 0 lo = 0 ∧ HT.sIx ws.length ws.length hi = ws.length) : cutD ws lo hi = ws := by
  unfold cutD
  rw [h.1, h.2]
  simp
def rSlU (x : D) (lo hi : Option Int) (s : Sg) (R : KD) : Prop := match x with
  | .str z => z.length ≤ 1000000 ∧ R (.str (cutS z lo hi)) s
  | .tup ws => R (.tup (cutD ws lo hi)) s
  | x => (match asL s x with
    | some ws => R (.lst (cutD ws lo hi)) s
    | none => False)
def dSl (te : DE) (tl th : DO) : DE := fun env s R => te env s fun x s1 => tl env s1 fun l s2 => th env s2 fun u s3 => rSlU x l u s3 R
theorem pd_sl {e : Expr} {lo hi : Option Expr} {te : DE} {tl th : DO} {p2 pos : Pos} (he : PD X e te) (hl : PDO X lo tl) (hu : PDO X hi th) : PD X (.Subscript e (.Slice lo hi none p2) pos) (dSl te tl th) :=
  pe_imp (pe_frzO (pe_slice (sl_str.or (sl_tupA.or sl_list)) he hl hu)) fun σ H Q ⟨env, s, R, h1, h2, h3, h4⟩ => by
    refine ⟨env, s, _, h1, h2, h3, fun x s1 v H1 q e1 m1 r1 => ⟨env, s1, _, h1.ext e1.ext, m1, q, fun l s2 H2 q2 e2 m2 => ⟨env, s2, _, (h1.ext e1.ext).ext e2.ext, m2, q2, fun u s3 H3 q3 e3 m3 => ?_⟩⟩⟩
    have r := Rep.ext e3.ext _ _ (Rep.ext e2.ext _ _ r1)
    have e := (e1.trans e2).trans e3
    unfold rSlU at q3
    split at q3
    · rename_i z
      exact .inl ⟨z, r, Nat.le_trans q3.1 mil, .inl (h4 _ _ _ _ q3.2 e m3 rfl)⟩
    · rename_i ws
      obtain ⟨a, vs, rfl, f, g⟩ := r
      refine .inr (.inl ⟨a, vs, rfl, f, fun c => .inl ?_, fun c p hp => .inl ?_⟩)
      · rw [← g.len] at c
        rw [cutD_whole c] at q3
        exact h4 _ _ _ _ q3 e m3 ⟨a, vs, rfl, f, g⟩
      · exact h4 _ _ _ _ q3 (e.trans (.new hp)) (m3.new hp) ⟨p, _, rfl, .of upd_same, Reps.ext (.new hp) _ _ (g.cut l u)⟩
    · split at q3
      · rename_i ws hw
        obtain ⟨a, vs, rfl, f, g⟩ := asL_sq hw r m3
        exact .inr (.inr ⟨a, vs, rfl, f, fun p hp => .inr (frz_new h4 q3 e m3 (g.cut l u) hp)⟩)
      · exact q3.elim
/-- xs[::-1] of a list -/
def dRev (te : DE) : DE := fun env s R => te env s fun x s1 => match asL s1 x with
  | some ws => R (.lst ws.reverse) s1
  | none => False
theorem pd_rev {e : Expr} {te : DE} {k : Nat} {p1 p2 p3 pos : Pos} (he : PD X e te) : PD X (.Subscript e (.Slice none none (some (.UnaryOp .USub (.Constant (.int 1) k p1) p2)) p3) pos) (dRev te) :=
  pe_imp (pe_frzO (pe_revL he)) fun σ H Q ⟨env, s, R, h1, h2, h3, h4⟩ => by
    refine ⟨env, s, _, h1, h2, h3, fun x s1 v H1 q e1 m1 r1 => ?_⟩
    split at q
    · rename_i ws hw
      obtain ⟨a, vs, rfl, f, g⟩ := asL_sq hw r1 m1
      exact ⟨a, vs, rfl, f, fun p hp => .inr (frz_new h4 q e1 m1 g.reverse hp)⟩
    · exact q.elim

/-! ### built-in functions -/
theorem call_imp {f : Value} {r r' : List V → Hp → VK → Prop} (h : CallR X f r) (hi : ∀ xs H Q, r' xs H Q → r xs H Q) : CallR X f r' := fun pins s σ H xs us Q I r q => h pins s σ H xs us Q I r (hi xs H Q q)
theorem dCB_imp (K : PySem.W.Frag) (r : DL) (ta : DA) : ∀ σ H Q, liftE K (dCB r ta) σ H Q → tCB (liftL K r) (liftA K ta) σ H Q := fun σ H Q ⟨env, s, R, h1, h2, h3, h4⟩ =>
  ⟨env, s, _, h1, h2, h3, fun ws s1 vs H1 q e1 m1 r1 => ⟨ws, s1, R, r1, m1, q, h4.ext e1⟩⟩
section
variable {x : Str} {p pos : Pos} {e : Expr} {es : List Expr} {t : DA} {id T : String} {r : DL}
theorem pd_callB (hc : CallR X (.builtin id) (liftL X.K r)) (hg : Gl X x) (hm : X.mg x = none) (hv : bootBuiltins x = some (.builtin id)) (ha : PDA X (e :: es) t) (hn : x ≠ "__name__" := by decide) (hdb : (x == ("__debug__" : Str)) = false := by decide)
    (he : starEach (e :: es) X.env = (false, eval e X.env) :: starEach es X.env := by rfl) (hpl : (backTo pos (starEach es X.env)).any (·.1) = false := by rfl) : PD X (.Call (.Name x p) (e :: es) [] pos) (dCB r t) :=
  pe_imp (pe_callB hc hg hm hv ha hn hdb he hpl) (dCB_imp X.K r t)
theorem pd_callTy (hc : CallR X (.type T) (liftL X.K r)) (hg : Gl X x) (hm : X.mg x = none) (hv : bootBuiltins x = some (.type T)) (ha : PDA X (e :: es) t) (hn : x ≠ "__name__" := by decide) (hdb : (x == ("__debug__" : Str)) = false := by decide)
    (he : starEach (e :: es) X.env = (false, eval e X.env) :: starEach es X.env := by rfl) (hpl : (backTo pos (starEach es X.env)).any (·.1) = false := by rfl) : PD X (.Call (.Name x p) (e :: es) [] pos) (dCB r t) :=
  pe_imp (pe_callTy hc hg hm hv ha hn hdb he hpl) (dCB_imp X.K r t)
end
def rLenU : DL := fun ws s R => match ws with
  | [.str z] => z.length ≤ 1000000 ∧ R (.int z.length) s
  | [w] => (match asQ s w with
    | some us => R (.int us.length) s
    | none => False)
  | _ => False
theorem cd_len : CallR X (.builtin "len") (liftL X.K rLenU) := by
  refine call_imp (call_len_str.or call_len_seq) fun xs H Q ⟨ws, s, R, r1, m, h, p⟩ => ?_
  unfold rLenU at h
  split at h
  · rename_i z
    obtain ⟨v, r, rfl, r2, r3⟩ := r1
    cases (show r = [] from r3)
    exact .inl ⟨z, by rw [(show v = .str z from r2)], Nat.le_trans h.1 mil, p _ _ _ _ h.2 (.refl _ _) m rfl⟩
  · rename_i w _
    obtain ⟨v, r, rfl, r2, r3⟩ := r1
    cases (show r = [] from r3)
    split at h
    · rename_i us hu
      obtain ⟨a, vs, rfl, f, g⟩ := asQ_sq hu r2 m
      exact .inr ⟨a, vs, rfl, f, by rw [← g.len]; exact p _ _ _ _ h (.refl _ _) m rfl⟩
    · exact h.elim
  · exact h.elim
def rAbs : DL := fun ws s R => match ws with
  | [.int i] => R (.int (if i < 0 then -i else i)) s
  | _ => False
theorem cd_abs : CallR X (.builtin "abs") (liftL X.K rAbs) := by
  refine call_imp call_abs fun xs H Q ⟨ws, s, R, r1, m, h, p⟩ => ?_
  unfold rAbs at h
  split at h
  · rename_i i
    obtain ⟨v, r, rfl, r2, r3⟩ := r1
    cases (show r = [] from r3)
    exact ⟨i, by rw [(show v = .int i from r2)], p _ _ _ _ h (.refl _ _) m rfl⟩
  · exact h.elim
def rInt2 (g : Int → Int → Int) : DL := fun ws s R => match ws with
  | [.int i, .int j] => R (.int (g i j)) s
  | _ => False
theorem cd_max2 (hc : X.calm = true) : CallR X (.builtin "max") (liftL X.K (rInt2 fun i j => if j > i then j else i)) := by
  refine call_imp (call_max2 hc) fun xs H Q ⟨ws, s, R, r1, m, h, p⟩ => ?_
  unfold rInt2 at h
  split at h
  · rename_i i j
    obtain ⟨v, r, rfl, r2, v', r', rfl, r3, r4⟩ := r1
    cases (show r' = [] from r4)
    exact ⟨i, j, by rw [(show v = .int i from r2), (show v' = .int j from r3)], p _ _ _ _ h (.refl _ _) m rfl⟩
  · exact h.elim
theorem cd_min2 (hc : X.calm = true) : CallR X (.builtin "min") (liftL X.K (rInt2 fun i j => if j < i then j else i)) := by
  refine call_imp (call_min2 hc) fun xs H Q ⟨ws, s, R, r1, m, h, p⟩ => ?_
  unfold rInt2 at h
  split at h
  · rename_i i j
    obtain ⟨v, r, rfl, r2, v', r', rfl, r3, r4⟩ := r1
    cases (show r' = [] from r4)
    exact ⟨i, j, by rw [(show v = .int i from r2), (show v' = .int j from r3)], p _ _ _ _ h (.refl _ _) m rfl⟩
  · exact h.elim
def rToInt : DL := fun ws s R => match ws with
  | [.int i] => R (.int i) s
  | [.bl b] => R (.int (if b then 1 else 0)) s
  | _ => False
theorem cd_int : CallR X (.type "int") (liftL X.K rToInt) := by
  refine call_imp call_int1 fun xs H Q ⟨ws, s, R, r1, m, h, p⟩ => ?_
  unfold rToInt at h
  split at h
  · rename_i i
    obtain ⟨v, r, rfl, r2, r3⟩ := r1
    cases (show r = [] from r3)
    exact .inl ⟨i, by rw [(show v = .int i from r2)], p _ _ _ _ h (.refl _ _) m rfl⟩
  · rename_i b
    obtain ⟨v, r, rfl, r2, r3⟩ := r1
    cases (show r = [] from r3)
    exact .inr ⟨b, by rw [(show v = .bl b from r2)], p _ _ _ _ h (.refl _ _) m rfl⟩
  · exact h.elim
def rStrI : DL := fun ws s R => match ws with
  | [.int i] => i.natAbs.log2 < 1920 ∧ R (.str (toString i)) s
  | _ => False
theorem cd_str : CallR X (.type "str") (liftL X.K rStrI) := by
  refine call_imp call_str_int fun xs H Q ⟨ws, s, R, r1, m, h, p⟩ => ?_
  unfold rStrI at h
  split at h
  · rename_i i
    obtain ⟨v, r, rfl, r2, r3⟩ := r1
    cases (show r = [] from r3)
    exact ⟨i, by rw [(show v = .int i from r2)], h.1, p _ _ _ _ h.2 (.refl _ _) m rfl⟩
  · exact h.elim
/-- sums, alls of a list -/
def rSumU : DL := fun ws s R => ∃ (w : D) (ns : List Int), ws = [w] ∧ asL s w = some (ns.map D.int) ∧ R (.int ns.sum) s
theorem cd_sum (hc : X.calm = true) : CallR X (.builtin "sum") (liftL X.K rSumU) := by
  refine call_imp (cr_sum hc) fun xs H Q ⟨ws, s, R, r1, m, h, p⟩ => ?_
  obtain ⟨w, ns, rfl, hw, h⟩ := h
  obtain ⟨v, r, rfl, r2, r3⟩ := r1
  cases (show r = [] from r3)
  obtain ⟨a, vs, rfl, f, g⟩ := asL_sq hw r2 m
  cases g.ints
  exact ⟨a, ns, rfl, f, p _ _ _ _ h (.refl _ _) m rfl⟩
def rAllU (g : List Bool → Bool) : DL := fun ws s R => ∃ (w : D) (ns : List Bool), ws = [w] ∧ asL s w = some (ns.map D.bl) ∧ R (.bl (g ns)) s
theorem cd_all (hc : X.calm = true) : CallR X (.builtin "all") (liftL X.K (rAllU fun l => l.all id)) := by
  refine call_imp (cr_all hc) fun xs H Q ⟨ws, s, R, r1, m, h, p⟩ => ?_
  obtain ⟨w, ns, rfl, hw, h⟩ := h
  obtain ⟨v, r, rfl, r2, r3⟩ := r1
  cases (show r = [] from r3)
  obtain ⟨a, vs, rfl, f, g⟩ := asL_sq hw r2 m
  cases g.bls
  exact ⟨a, ns, rfl, f, p _ _ _ _ h (.refl _ _) m rfl⟩
theorem cd_any (hc : X.calm = true) : CallR X (.builtin "any") (liftL X.K (rAllU fun l => l.any id)) := by
  refine call_imp (cr_any hc) fun xs H Q ⟨ws, s, R, r1, m, h, p⟩ => ?_
  obtain ⟨w, ns, rfl, hw, h⟩ := h
  obtain ⟨v, r, rfl, r2, r3⟩ := r1
  cases (show r = [] from r3)
  obtain ⟨a, vs, rfl, f, g⟩ := asL_sq hw r2 m
  cases g.bls
  exact ⟨a, ns, rfl, f, p _ _ _ _ h (.refl _ _) m rfl⟩
end
end Dz
namespace Dz
open PySem PySem.Spec PyProof.Rows L2

/-! ### isinstance by built-in classes -/
def tyN (s : Sg) : D → Option String
  | .non => some "NoneType"
  | .bl _ => some "bool"
  | .int _ => some "int"
  | .str _ => some "str"
  | .tup _ => some "tuple"
  | .lst _ => some "list"
  | .dic _ _ => some "dict"
  | .ref a => (match s.M a with
    | some (.lst _) => some "list"
    | some (.dic _ _) => some "dict"
    | _ => none)
  | .ty _ => none
theorem tyN_ty {K : PySem.W.Frag} {H : Hp} {s : Sg} {w : D} {v : V} {n : String} (h : tyN s w = some n) (r : Rep K H w v) (m : MRep K H s) : TyX K H v (.type n) := by
  cases w with
  | non => cases h; cases r; exact .base .non
  | bl b => cases h; cases r; exact .base (.bl b)
  | int i => cases h; cases r; exact .base (.int i)
  | str x => cases h; cases r; exact .base (.str x)
  | tup ws =>
    cases h
    obtain ⟨a, vs, rfl, f, _⟩ := r
    rcases f with (f | ⟨o, f⟩) | ⟨o, its, n, f, c, _⟩
    · exact .base (.tup f)
    · exact .fTuple f
    · exact .kTuple f c
  | lst ws =>
    cases h
    obtain ⟨a, vs, rfl, f, _⟩ := r
    rcases f with (f | ⟨o, f⟩) | ⟨o, its, n, f, c, _⟩
    · obtain ⟨_, _, z, _⟩ := fz_some f; cases z
    · obtain ⟨_, _, z, q⟩ := fz_some f; cases z; exact .base (.frz q)
    · exact .kList f c
  | dic ks ws =>
    cases h
    obtain ⟨a, vs, o, rfl, f, _⟩ := r
    exact .fDict f
  | ref a =>
    cases (show v = .ref a from r)
    dsimp only [tyN] at h
    cases hm : s.M a with
    | none => rw [hm] at h; cases h
    | some o =>
      rw [hm] at h
      cases o with
      | lst us => cases h; obtain ⟨vs, e, _⟩ := m.at_ a _ hm; exact .base (.lst e)
      | dic ks us => cases h; obtain ⟨vs, e, _⟩ := m.at_ a _ hm; exact .base (.dK e)
      | _ => cases h
  | ty n => cases h
/-- is a thing of class a one of class b -/
def subT (a b : String) : Bool := a == b || (a == "bool" && b == "int")
def isiT (a : String) (cs : List String) : Bool := cs.any (subT a)
def tyOk (a : String) : Bool := a == "NoneType" || a == "bool" || a == "int" || a == "str" || a == "tuple" || a == "list" || a == "dict"
theorem kitB_sub {a b : String} (ha : tyOk a = true) (hb : tyOk b = true) : kitB a b = some (subT a b) := by
  simp only [tyOk, Bool.or_eq_true, beq_iff_eq] at ha hb
  rcases ha with (((((rfl | rfl) | rfl) | rfl) | rfl) | rfl) | rfl <;> rcases hb with (((((rfl | rfl) | rfl) | rfl) | rfl) | rfl) | rfl <;> decide +kernel
theorem tyN_ok {s : Sg} {w : D} {n : String} (h : tyN s w = some n) : tyOk n = true := by
  cases w with
  | ref a =>
    dsimp only [tyN] at h
    cases hm : s.M a with
    | none => rw [hm] at h; cases h
    | some o => rw [hm] at h; cases o <;> first | (cases h; rfl) | cases h
  | _ => first | (cases h; rfl) | cases h
def tyNames : List D → Option (List String)
  | [] => some []
  | .ty n :: r => (tyNames r).map fun l => n :: l
  | _ => none
def rIsi : DL := fun ws s R => match ws with
  | [x, .ty c] => (match tyN s x with
    | some n => tyOk c = true ∧ R (.bl (subT n c)) s
    | none => False)
  | [x, .tup cs] => (match tyN s x, tyNames cs with
    | some n, some l => l.all tyOk = true ∧ R (.bl (isiT n l)) s
    | _, _ => False)
  | _ => False
theorem kitAny_sub {K : PySem.W.Frag} {a : String} (ha : tyOk a = true) : ∀ {l : List String}, l.all tyOk = true → PySem.W.kitAny K (.type a) (l.map Value.type) = some (isiT a l)
  | [], _ => kitAny_nil
  | b :: l, h => by
    rw [List.all_cons, Bool.and_eq_true] at h
    refine kitAny_cons (kit_ty (kitB_sub ha h.1)) (fun e => ?_) (fun e => ?_)
    · rw [kitAny_sub ha h.2]
      unfold isiT
      rw [List.any_cons, e, Bool.false_or]
    · unfold isiT
      rw [List.any_cons, e, Bool.true_or]
theorem tyNames_cls {K : PySem.W.Frag} {H : Hp} : ∀ {cs : List D} {l : List String} {vs : List V}, tyNames cs = some l → Reps K H cs vs → Paired ClsV vs (l.map Value.type)
  | [], l, vs, h, r => by cases h; cases (show vs = [] from r); exact .nil
  | .ty n :: cs, l, vs, h, r => by
    unfold tyNames at h
    obtain ⟨l', e, rfl⟩ := Option.map_eq_some_iff.mp h
    obtain ⟨v, r', rfl, r1, r2⟩ := r
    cases (show v = .ty n from r1)
    exact .cons (.ty n) (tyNames_cls e r2)
section
variable {X : Cx}
theorem cd_isi : CallR X (.builtin "isinstance") (liftL X.K rIsi) := by
  intro pins s σ H xs us Q I rr ⟨ws, sg, R, r1, m, h, p⟩
  unfold rIsi at h
  split at h
  · rename_i x c
    obtain ⟨v, r, rfl, r2, v', r', rfl, r3, r4⟩ := r1
    cases (show r' = [] from r4)
    cases (show v' = .ty c from r3)
    split at h
    · rename_i n hn
      exact call_isi pins s σ H _ us Q I rr ⟨v, .ty c, .type n, .type c, _, rfl, .ty c, tyN_ty hn r2 m, kit_ty (kitB_sub (tyN_ok hn) h.1), p _ _ _ _ h.2 (.refl _ _) m rfl⟩
    · exact h.elim
  · rename_i x cs
    obtain ⟨v, r, rfl, r2, v', r', rfl, r3, r4⟩ := r1
    cases (show r' = [] from r4)
    obtain ⟨a, vs, rfl, f, g⟩ := r3
    split at h
    · rename_i n l hn hl
      have kt := kitAny_sub (K := X.K) (tyN_ok hn) h.1
      have pc := tyNames_cls hl g
      have fin := p _ _ (.bl (isiT n l)) _ h.2 (.refl _ _) m rfl
      rcases f with (f | ⟨o, f⟩) | f
      · exact call_isiT pins s σ H _ us Q I rr ⟨v, a, vs, .type n, l.map Value.type, _, rfl, f, pc, tyN_ty hn r2 m, kt, fin⟩
      all_goals
        obtain ⟨u1, u2, rfl, q1, q2⟩ := vals2 rr
        cases (show u2 = Value.ref a from q2)
        obtain ⟨P, Z, pz, hx⟩ := kit_of I q1 (tyN_ty hn r2 m)
        obtain ⟨its, rv, ⟨⟨oc, od, dt, sl⟩, h1, h2, nn, h3⟩, _⟩ := I.tuple (a := a) (xs := vs) (by first | exact .inl (.inr ⟨_, f⟩) | exact .inr f)
        have e3 := ClsV.all pc rv
        subst e3
        simp only at h2 h3
        subst h2 h3
        exact PySem.W.kia_tup Z I.kIn pz h1 kt hx fun tk => ⟨.bl _, H, I.tok tk, rfl, fin⟩
    · exact h.elim
  · exact h.elim

/-! ### repr -/
def rRepr : DL := fun ws s R => match ws with
  | [w] => (match pyOf s w with
    | some d => isDisplay d = true ∧ d.showable = true ∧ d.depth ≤ 60 ∧ d.shown.length ≤ 1000000 ∧ R (.str d.shown) s
    | none => False)
  | _ => False
theorem noDictD : ∀ {K : PySem.W.Frag} {H : Hp} {v : V} {d : PyData}, Dp K H v d → d.hasDict = false := by
  intro K H v d h
  refine Dp.rec (motive_1 := fun v d _ => d.hasDict = false) (motive_2 := fun vs ds _ => PyData.hasDictAll ds = false) ?_ ?_ ?_ ?_ ?_ ?_ ?_ ?_ h
  · simp [PyData.hasDict]
  · intro b; simp [PyData.hasDict]
  · intro b; simp [PyData.hasDict]
  · intro b; simp [PyData.hasDict]
  · intro a xs ds _ _ ih; simpa [PyData.hasDict] using ih
  · intro a xs ds _ _ ih; simpa [PyData.hasDict] using ih
  · simp [PyData.hasDictAll]
  · intro v vs d ds _ _ h1 h2; simp [PyData.hasDictAll, h1, h2]
theorem cd_repr {k : Nat} (hr : Room k X.A) (hg : X.A.guards = some []) : CallR X (.builtin "repr") (liftL X.K rRepr) := by
  intro pins s σ H xs us Q I rr ⟨ws, sg, R, r1, m, h, p⟩
  unfold rRepr at h
  split at h
  · rename_i w
    obtain ⟨v, r, rfl, r2, r3⟩ := r1
    cases (show r = [] from r3)
    split at h
    · rename_i d hd
      obtain ⟨c1, c2, c3, c4, c5⟩ := h
      have dp := pyOf_dp hd r2 m
      obtain ⟨u, rfl, ru⟩ := vals1 rr
      obtain ⟨as, rd⟩ := Dp.reads I d v u dp ru
      obtain ⟨a, rfl⟩ := isRef_of_reads rd c1
      have hu := hr.units
      exact repr_of_reads' rd c2 (PyData.noDict_hsm (noDictD dp)) hg (by omega) (fun _ _ e => e) (fun h' u' tk hk => ⟨.str d.shown, H, I.kept hk, ⟨u', rfl⟩, p _ _ _ _ c5 (.refl _ _) m rfl⟩) (Nat.le_trans c4 mil)
    · exact h.elim
  · exact h.elim

/-! ### new lists by calls -/
def tCBn (K : PySem.W.Frag) (r : List D → Sg → (List D → Sg → Prop) → Prop) (ta : DA) : DA := fun env s R => ta env s fun ws s1 => r ws s1 R
/-- what a call gives: a new list of these -/
def liftNL (K : PySem.W.Frag) (r : List D → Sg → (List D → Sg → Prop) → Prop) : List V → Hp → VK → Prop := fun xs H Q => ∃ ws s R, Reps K H ws xs ∧ MRep K H s ∧ r ws s R ∧ PostA K H s R fun vs H1 => ∀ p, H1 p = none → Q (.ref p) (upd H1 p (.lst vs))
abbrev DN := List D → Sg → (List D → Sg → Prop) → Prop
def dCN (r : DN) (ta : DA) : DA := fun env s R => ta env s fun ws s1 => r ws s1 R
theorem dCN_imp (K : PySem.W.Frag) (r : DN) (ta : DA) : ∀ σ H Q, tNew (liftA K (dCN r ta)) σ H Q → tCB (liftNL K r) (liftA K ta) σ H Q := fun σ H Q ⟨env, s, R, h1, h2, h3, h4⟩ =>
  ⟨env, s, _, h1, h2, h3, fun ws s1 vs H1 q e1 m1 r1 => ⟨ws, s1, R, r1, m1, q, h4.ext e1⟩⟩
section
variable {x : Str} {p pos : Pos} {e : Expr} {es : List Expr} {t : DA} {id T : String} {r : DN}
theorem nl_callB (hc : CallR X (.builtin id) (liftNL X.K r)) (hg : Gl X x) (hm : X.mg x = none) (hv : bootBuiltins x = some (.builtin id)) (ha : PDA X (e :: es) t) (hn : x ≠ "__name__" := by decide) (hdb : (x == ("__debug__" : Str)) = false := by decide)
    (he : starEach (e :: es) X.env = (false, eval e X.env) :: starEach es X.env := by rfl) (hpl : (backTo pos (starEach es X.env)).any (·.1) = false := by rfl) : PNL X (.Call (.Name x p) (e :: es) [] pos) (dCN r t) :=
  pe_imp (pe_callB hc hg hm hv ha hn hdb he hpl) (dCN_imp X.K r t)
theorem nl_callTy (hc : CallR X (.type T) (liftNL X.K r)) (hg : Gl X x) (hm : X.mg x = none) (hv : bootBuiltins x = some (.type T)) (ha : PDA X (e :: es) t) (hn : x ≠ "__name__" := by decide) (hdb : (x == ("__debug__" : Str)) = false := by decide)
    (he : starEach (e :: es) X.env = (false, eval e X.env) :: starEach es X.env := by rfl) (hpl : (backTo pos (starEach es X.env)).any (·.1) = false := by rfl) : PNL X (.Call (.Name x p) (e :: es) [] pos) (dCN r t) :=
  pe_imp (pe_callTy hc hg hm hv ha hn hdb he hpl) (dCN_imp X.K r t)
end
/-- list(x): of a list, a tuple, a text -/
def rListU : DN := fun ws s R => match ws with
  | [.str z] => z.length ≤ 1000000 ∧ R (z.cps.toList.map fun c => .str ⟨#[c]⟩) s
  | [w] => (match asQ s w with
    | some us => R us s
    | none => False)
  | _ => False
theorem cr_list_str (hc : X.calm = true) : CallR X (.type "list") (fun xs H Q => ∃ z : Str, xs = [.str z] ∧ z.length ≤ sizeLine ∧ ∀ p, H p = none → Q (.ref p) (upd H p (.lst (z.cps.toList.map fun c => .str ⟨#[c]⟩)))) := by
  intro pins s σ H xs us Q I r ⟨z, e, hz, q⟩
  subst e
  obtain ⟨u, rfl, t, rfl⟩ := vals1 r
  refine call_list_str (I.ok.hd hc) z t (hn := hz) fun h' tk acc c kp at_ its => ?_
  refine ⟨.ref _, _, I.laid (o := .lst (z.cps.toList.map fun c => .str ⟨#[c]⟩)) kp (Nat.le_refl _) ⟨by rw [List.length_map, Array.length_toList]; exact hz, acc.toList, c, ?_, by simpa using at_⟩, rfl, q _ I.fresh⟩
  have key : ∀ (j : Nat) (u : Value), acc.toList[j]? = some u → ∃ c, z.cps[j]? = some c ∧ RelV (.str ⟨#[c]⟩) u := fun j u hu => by
    obtain ⟨c, t, h1, rfl⟩ := its.2 j u (by simpa using hu)
    exact ⟨c, h1, t, rfl⟩
  have len : acc.toList.length = z.cps.toList.length := by simp [its.1]
  have gen : ∀ (cs : List Nat) (us : List Value), us.length = cs.length → (∀ (j : Nat) (u : Value), us[j]? = some u → ∃ c, cs[j]? = some c ∧ RelV (.str ⟨#[c]⟩) u) → Vals (cs.map fun c => V.str ⟨#[c]⟩) us := by
    intro cs
    induction cs with
    | nil => intro us h _; cases us with
      | nil => exact .nil
      | cons _ _ => cases h
    | cons c cs ih =>
      intro us h k
      cases us with
      | nil => cases h
      | cons u us =>
        obtain ⟨c', e1, e2⟩ := k 0 u rfl
        cases e1
        exact .cons e2 (ih us (Nat.succ.inj h) fun j u hu => k (j + 1) u hu)
  exact gen _ _ len fun j u hu => by obtain ⟨c, e1, e2⟩ := key j u hu; exact ⟨c, by simpa using e1, e2⟩
theorem Reps.chars {K : PySem.W.Frag} {H : Hp} : ∀ cs : List Nat, Reps K H (cs.map fun c => D.str ⟨#[c]⟩) (cs.map fun c => V.str ⟨#[c]⟩)
  | [] => rfl
  | c :: cs => ⟨_, _, rfl, rfl, Reps.chars cs⟩
theorem cd_list (hc : X.calm = true) : CallR X (.type "list") (liftNL X.K rListU) := by
  refine call_imp ((cr_list_str hc).or call_list_of) fun xs H Q ⟨ws, s, R, r1, m, h, p⟩ => ?_
  unfold rListU at h
  split at h
  · rename_i z
    obtain ⟨v, r, rfl, r2, r3⟩ := r1
    cases (show r = [] from r3)
    exact .inl ⟨z, by rw [(show v = .str z from r2)], Nat.le_trans h.1 mil, p _ _ _ _ h.2 (.refl _ _) m (Reps.chars _)⟩
  · rename_i w _
    obtain ⟨v, r, rfl, r2, r3⟩ := r1
    cases (show r = [] from r3)
    split at h
    · rename_i us hu
      obtain ⟨a, vs, rfl, f, g⟩ := asQ_sq hu r2 m
      exact .inr ⟨a, vs, rfl, f, p _ _ _ _ h (.refl _ _) m g⟩
    · exact h.elim
  · exact h.elim
/-- sorted of texts, of ints -/
def rSortS : DN := fun ws s R => ∃ (w : D) (xs : List Str), ws = [w] ∧ asL s w = some (xs.map D.str) ∧ xs.length < 64 ∧ ∀ ys : List Str, ys.Perm xs → sortedS ys = true → R (ys.map D.str) s
theorem cd_sortS : CallR X (.builtin "sorted") (liftNL X.K rSortS) := by
  refine call_imp cr_sortedS fun vs H Q ⟨ws, s, R, r1, m, h, p⟩ => ?_
  obtain ⟨w, xs, rfl, hw, hl, h⟩ := h
  obtain ⟨v, r, rfl, r2, r3⟩ := r1
  cases (show r = [] from r3)
  obtain ⟨a, us, rfl, f, g⟩ := asL_sq hw r2 m
  cases g.strs
  exact ⟨a, xs, rfl, f, hl, fun ys q p1 p2 hq => p _ _ _ _ (h ys p1 p2) (.refl _ _) m Reps.ofStrs q hq⟩

/-! ### methods of lists that may change -/
def trk (x : D) (s : Sg) (k : Addr → List D → Prop) : Prop := match x with
  | .ref l => (match s.M l with
    | some (.lst ws) => k l ws
    | _ => False)
  | _ => False
theorem trk_ok {x : D} {s : Sg} {k : Addr → List D → Prop} (h : trk x s k) : ∃ l ws, x = .ref l ∧ s.M l = some (.lst ws) ∧ k l ws := by
  unfold trk at h
  split at h
  · rename_i l
    split at h
    · rename_i ws e
      exact ⟨l, ws, rfl, e, h⟩
    · exact h.elim
  · exact h.elim
def dAppend (to ta : DE) : DE := fun env s R => to env s fun x s1 => trk x s1 fun _ _ => ta env s1 fun y s2 => trk x s2 fun l ws => ws.length < 1000000 ∧ R .non (s2.put l (.lst (ws ++ [y])))
theorem mrep_put {K : PySem.W.Frag} {H : Hp} {s : Sg} {l : Addr} {ws us : List D} {ts : List V} (m : MRep K H s) (hm : s.M l = some (.lst ws)) (r : Reps K H us ts) : MRep K (upd H l (.lst ts)) (s.put l (.lst us)) ∧ Stp H s (upd H l (.lst ts)) (s.put l (.lst us)) := by
  have mu := (m.at_ l _ hm).mut
  exact ⟨m.write (.inr ⟨_, hm, fun _ => nofun⟩) (fun _ => nofun) ⟨ts, upd_same, Reps.ext (.put mu) _ _ r⟩, .put (.inr ⟨mu, by rw [hm]; simp⟩)⟩
theorem ty_trk {K : PySem.W.Frag} {H : Hp} {s : Sg} {l : Addr} {ws : List D} (m : MRep K H s) (hm : s.M l = some (.lst ws)) : tyV K "list" (.ref l) H := by
  obtain ⟨vs, z, _⟩ := m.at_ l _ hm
  exact .inl ⟨rfl, vs, .of z⟩
section
variable {o a : Expr} {to ta : DE} {apos cpos : Pos}
theorem pd_append (ho : PD X o to) (ha : PD X a ta) (hbase : attributeBase o "append" X.env (eval o X.env) = eval o X.env := by rfl)
    (hfew : ((backTo cpos (starEach [a] X.env)).all (fun x => !x.1) && (backToKw cpos (keywordEach [] X.env)).all (fun x => x.1.isSome) && decide (([a] : List Expr).length + ([] : List Keyword).length + (if ([] : List Keyword).isEmpty then 0 else 1) < 30)) = true := by rfl)
    (hline : (apos.endLine == cpos.line) = true := by rfl) (hs : starEach [a] X.env = (false, eval a X.env) :: starEach [] X.env := by rfl) :
    PD X (.Call (.Attribute o "append" apos) [a] [] cpos) (dAppend to ta) :=
  pe_imp (pe_bm PySem.F.plainAttrs_list PySem.F.slot_list_append PySem.F.type_list_append mt_append ho (pda_cons ha pda_nil hs) hbase hfew hline hs) fun σ H Q ⟨env, s, R, h1, h2, h3, h4⟩ => by
    refine ⟨env, s, _, h1, h2, h3, fun x s1 v H1 q e1 m1 r1 => ?_⟩
    obtain ⟨l, ws, rfl, hm, q⟩ := trk_ok q
    cases (show v = .ref l from r1)
    refine ⟨ty_trk m1 hm, env, s1, (fun zs s2 => match zs with
      | [y] => trk (.ref l) s2 fun l ws => ws.length < 1000000 ∧ R .non (s2.put l (.lst (ws ++ [y])))
      | _ => False), h1.ext e1.ext, m1, q, fun zs s3 us H3 q3 e3 m3 r3 => ?_⟩
    dsimp only at q3
    split at q3
    · rename_i y
      obtain ⟨u, ur, rfl, r2, r4⟩ := r3
      cases (show ur = [] from r4)
      obtain ⟨l', ws', e, hm3, c1, c2⟩ := trk_ok q3
      cases e
      obtain ⟨ts, z1, z2⟩ := m3.at_ l _ hm3
      have rs := Reps.append z2 (show Reps X.K H3 [y] [u] from ⟨u, [], rfl, r2, rfl⟩)
      obtain ⟨n1, n2⟩ := mrep_put m3 hm3 rs
      exact ⟨l, ts, u, rfl, rfl, z1, by rw [← z2.len]; exact mil1 c1, h4 _ _ _ _ c2 ((e1.trans e3).trans n2) n1 rfl⟩
    · exact q3.elim
def dPop (to : DE) : DE := fun env s R => to env s fun x s1 => trk x s1 fun l ws => match ws[ws.length - 1]? with
  | some y => R y (s1.put l (.lst ws.dropLast))
  | none => False
theorem Reps.dropLast {K : PySem.W.Frag} {H : Hp} {ws : List D} {vs : List V} (r : Reps K H ws vs) : Reps K H ws.dropLast vs.dropLast := by
  rw [List.dropLast_eq_take, List.dropLast_eq_take, r.len]
  exact r.take _
theorem pd_pop (ho : PD X o to) (hbase : attributeBase o "pop" X.env (eval o X.env) = eval o X.env := by rfl) (hline : (apos.endLine == cpos.line) = true := by rfl) : PD X (.Call (.Attribute o "pop" apos) [] [] cpos) (dPop to) :=
  pe_imp (pe_bm0 PySem.F.plainAttrs_list PySem.F.slot_list_pop PySem.F.type_list_pop mt_pop ho hbase hline) fun σ H Q ⟨env, s, R, h1, h2, h3, h4⟩ => by
    refine ⟨env, s, _, h1, h2, h3, fun x s1 v H1 q e1 m1 r1 => ?_⟩
    obtain ⟨l, ws, rfl, hm, q⟩ := trk_ok q
    cases (show v = .ref l from r1)
    split at q
    · rename_i y hy
      obtain ⟨ts, z1, z2⟩ := m1.at_ l _ hm
      obtain ⟨u, hu, ru⟩ := z2.get hy
      rw [z2.len] at hu
      obtain ⟨n1, n2⟩ := mrep_put m1 hm z2.dropLast
      exact ⟨ty_trk m1 hm, l, ts, u, rfl, rfl, z1, hu, h4 _ _ _ _ q (e1.trans n2) n1 (Rep.ext n2.ext _ _ ru)⟩
    · exact q.elim
def rPopAtD (l : Addr) (R : KD) (y : D) (s2 : Sg) : Prop := trk (.ref l) s2 fun l ws => ws.length ≤ 1000000 ∧ match y with
  | .int i => (match ixN ws.length i with
    | some k => (match ws[k]? with
      | some z => R z (s2.put l (.lst (ws.eraseIdx k)))
      | none => False)
    | none => False)
  | _ => False
def dPopAt (to ta : DE) : DE := fun env s R => to env s fun x s1 => trk x s1 fun l _ => ta env s1 fun y s2 => rPopAtD l R y s2
theorem pd_popAt (ho : PD X o to) (ha : PD X a ta) (hbase : attributeBase o "pop" X.env (eval o X.env) = eval o X.env := by rfl)
    (hfew : ((backTo cpos (starEach [a] X.env)).all (fun x => !x.1) && (backToKw cpos (keywordEach [] X.env)).all (fun x => x.1.isSome) && decide (([a] : List Expr).length + ([] : List Keyword).length + (if ([] : List Keyword).isEmpty then 0 else 1) < 30)) = true := by rfl)
    (hline : (apos.endLine == cpos.line) = true := by rfl) (hs : starEach [a] X.env = (false, eval a X.env) :: starEach [] X.env := by rfl) :
    PD X (.Call (.Attribute o "pop" apos) [a] [] cpos) (dPopAt to ta) :=
  pe_imp (pe_bm PySem.F.plainAttrs_list PySem.F.slot_list_pop PySem.F.type_list_pop mt_popAt ho (pda_cons ha pda_nil hs) hbase hfew hline hs) fun σ H Q ⟨env, s, R, h1, h2, h3, h4⟩ => by
    refine ⟨env, s, _, h1, h2, h3, fun x s1 v H1 q e1 m1 r1 => ?_⟩
    obtain ⟨l, ws, rfl, hm, q⟩ := trk_ok q
    cases (show v = .ref l from r1)
    refine ⟨ty_trk m1 hm, env, s1, (fun zs s2 => match zs with
      | [y] => rPopAtD l R y s2
      | _ => False), h1.ext e1.ext, m1, q, fun zs s3 us H3 q3 e3 m3 r3 => ?_⟩
    dsimp only at q3
    split at q3
    · rename_i y
      obtain ⟨u, ur, rfl, r2, r4⟩ := r3
      cases (show ur = [] from r4)
      obtain ⟨l', ws', e, hm3, c0, c⟩ := trk_ok q3
      cases e
      split at c
      · rename_i i
        cases (show u = .int i from r2)
        split at c
        · rename_i k hk
          split at c
          · rename_i z hz
            obtain ⟨ts, z1, z2⟩ := m3.at_ l _ hm3
            obtain ⟨t, ht, rt⟩ := z2.get hz
            rw [z2.len] at hk
            obtain ⟨g1, g2, g3, g4⟩ := ixN_seq hk
            have hz : ts.length ≤ 1000000 := by rw [← z2.len]; exact c0
            obtain ⟨n1, n2⟩ := mrep_put m3 hm3 (z2.erase k)
            exact ⟨l, ts, i, k, t, rfl, rfl, z1, by omega, by omega, g1, ht, h4 _ _ _ _ c ((e1.trans e3).trans n2) n1 (Rep.ext n2.ext _ _ rt)⟩
          · exact c.elim
        · exact c.elim
      · exact c.elim
    · exact q3.elim
end
/-! ### xs[i] = v -/
def dSetIx (tv to ti : DE) : DS := fun DD env s => tv env s fun v s1 => to env s1 fun x s2 => ti env s2 fun y s3 => trk x s3 fun l ws => match y with
  | .int i => (match ixN ws.length i with
    | some k => DD.nx env (s3.put l (.lst (ws.set k v)))
    | none => False)
  | _ => False
theorem pd_setIx {o i e : Expr} {to ti te : DE} {ps pos : Pos} (he : PD X e te) (ho : PD X o to) (hi : PD X i ti)
    (ha : ∀ v, assign (.Subscript o i ps) X.env v = (do
      let ov ← holding [v] (eval o X.env)
      let iv ← holding [v, ov] (eval i X.env)
      standAt ps
      holding [v, ov, iv] (setItem ov iv v)
      release [v, ov, iv] []) := by intro _; rfl)
    (hs : swapsWithSole [.Subscript o i ps] e pos.line X.env = pure false := by rfl) (hw : swappedStores [.Subscript o i ps] e X.env = pure none := by rfl)
    (h1 : (assignEach [.Subscript o i ps] X.env).map (·.2) = [assign (.Subscript o i ps) X.env] := by rfl) : PDS X (.Assign [.Subscript o i ps] e pos) (dSetIx te to ti) :=
  ps_imp (ps_asg he (pg_sub ho hi set_list ha) hs hw h1) fun D0 σ H ⟨env, s, DD, h1, h2, h3, h4⟩ => by
    refine ⟨env, s, _, h1, h2, h3, fun v s1 vv H1 q1 e1 m1 r1 => ⟨env, s1, _, h1.ext e1.ext, m1, q1, fun x s2 xv H2 q2 e2 m2 r2 => ⟨env, s2, _, (h1.ext e1.ext).ext e2.ext, m2, q2, fun y s3 yv H3 q3 e3 m3 r3 => ?_⟩⟩⟩
    obtain ⟨l, ws, rfl, hm, c⟩ := trk_ok q3
    split at c
    · rename_i i
      split at c
      · rename_i k hk
        cases (show xv = .ref l from r2)
        cases (show yv = .int i from r3)
        obtain ⟨ts, z1, z2⟩ := m3.at_ l _ hm
        rw [z2.len] at hk
        have rv := Rep.ext e3.ext _ _ (Rep.ext e2.ext _ _ r1)
        obtain ⟨n1, n2⟩ := mrep_put m3 hm (z2.set rv k)
        have et := ((e1.trans e2).trans e3).trans n2
        exact ⟨l, ts, i, k, rfl, rfl, z1, hk, h4.nx _ _ _ _ c et n1 (h1.ext et.ext)⟩
      · exact c.elim
    · exact c.elim
/-! ### sep.join(xs) -/
def rJoin (a : Str) (R : KD) (y : D) (s2 : Sg) : Prop := ∃ ys : List Str, asQ s2 y = some (ys.map D.str) ∧ (ys.map (·.length)).sum + ys.length * a.length ≤ 1000000 ∧ R (.str (Txt.join a ys)) s2
def dJoin (to ta : DE) : DE := fun env s R => to env s fun x s1 => match x with
  | .str a => ta env s1 fun y s2 => rJoin a R y s2
  | _ => False
theorem pd_join {o a : Expr} {to ta : DE} {apos cpos : Pos} (ho : PD X o to) (ha : PD X a ta) (hbase : attributeBase o "join" X.env (eval o X.env) = eval o X.env := by rfl)
    (hfew : ((backTo cpos (starEach [a] X.env)).all (fun x => !x.1) && (backToKw cpos (keywordEach [] X.env)).all (fun x => x.1.isSome) && decide (([a] : List Expr).length + ([] : List Keyword).length + (if ([] : List Keyword).isEmpty then 0 else 1) < 30)) = true := by rfl)
    (hline : (apos.endLine == cpos.line) = true := by rfl) (hs : starEach [a] X.env = (false, eval a X.env) :: starEach [] X.env := by rfl) :
    PD X (.Call (.Attribute o "join" apos) [a] [] cpos) (dJoin to ta) :=
  pe_imp (pe_bm PySem.F.plainAttrs_str PySem.F.slot_str_join PySem.F.type_str_join mt_join ho (pda_cons ha pda_nil hs) hbase hfew hline hs) fun σ H Q ⟨env, s, R, h1, h2, h3, h4⟩ => by
    refine ⟨env, s, _, h1, h2, h3, fun x s1 v H1 q e1 m1 r1 => ?_⟩
    split at q
    · rename_i z
      cases (show v = .str z from r1)
      refine ⟨rfl, env, s1, (fun zs s2 => match zs with
        | [y] => rJoin z R y s2
        | _ => False), h1.ext e1.ext, m1, q, fun zs s3 us H3 q3 e3 m3 r3 => ?_⟩
      dsimp only at q3
      split at q3
      · rename_i y
        obtain ⟨u, ur, rfl, r2, r4⟩ := r3
        cases (show ur = [] from r4)
        obtain ⟨ys, hy, hl, c⟩ := q3
        obtain ⟨b, vs, rfl, f, g⟩ := asQ_sq hy r2 m3
        cases g.strs
        exact ⟨z, b, ys, rfl, rfl, f, Nat.le_trans hl (by decide), h4 _ _ _ _ c (e1.trans e3) m3 rfl⟩
      · exact q3.elim
    · exact q.elim
end
end Dz
namespace Dz
open PySem PySem.Spec PyProof.Rows L2

/-! ### defs: where no repr is running -/
structure FnG (P : Program) (w : World) (K : PySem.W.Frag) (mg : Str → Option Value) (base : Heap) (CX : CXT) (k : Nat) (f : Addr) (fd : FuncData) (ps : List Str) (sp : Sp) : Prop where
  len : ∀ vs H Q E, sp vs H Q E → vs.length = ps.length
  run : ∀ (A : Around) (outer : List Env) (s : Shared) (H : Hp) (args : Args) (us : List Value) (vs : List V) (Q : VK) (E : XK), Room k A → A.guards = some [] → Env0 P w K mg base A outer s H → BindsTo s fd args (ps.zip us) → Vals vs us → sp vs H Q E →
    codeAny (model P w) A (.call (.ref f) args) (CR CX outer P w H s Q E) s
section
variable {P : Program} {w : World} {K : PySem.W.Frag} {mg : Str → Option Value} {base : Heap} {CX : CXT} {j k : Nat} {f : Addr} {fd : FuncData} {ps : List Str} {sp sp' : Sp}
theorem FnG.mono (F : FnG P w K mg base CX j f fd ps sp) (h : j ≤ k) : FnG P w K mg base CX k f fd ps sp := ⟨F.len, fun A outer s H args us vs Q E hr => F.run A outer s H args us vs Q E (hr.mono h)⟩
theorem FnG.imp (F : FnG P w K mg base CX k f fd ps sp) (h : ∀ vs H Q E, sp' vs H Q E → sp vs H Q E) : FnG P w K mg base CX k f fd ps sp' :=
  ⟨fun vs H Q E q => F.len vs H Q E (h _ _ _ _ q), fun A outer s H args us vs Q E hr hg he hb hv hs => F.run A outer s H args us vs Q E hr hg he hb hv (h _ _ _ _ hs)⟩
/-- a def of the text, by its body -/
theorem fnG_of {x qual : Str} {params : Arguments} {body : List Stmt} {scope : Scope} {dvs : List V} {kws : List (Str × V)} {N : List Str} (F : FunD K x qual params body scope dvs kws f fd) (S : FnScope N ps scope) (len : ∀ vs H Q E, sp vs H Q E → vs.length = ps.length)
    (hb : ∀ (cdv : Value) (A : Around) (outer : List Env) (s : Shared) (H : Hp) (vs : List V) (Q : VK) (E : XK), Room k (A.deeper (envOfC qual scope s.heap.objs.size f cdv)) → (A.deeper (envOfC qual scope s.heap.objs.size f cdv)).guards = some [] → sp vs H Q E →
      ∃ t, PSs (cxOf CX P w K mg base N qual scope f cdv A outer s H E) body t ∧ t { nx := fun _ H' => Q .non H', rt := Q } (L2.start N vs) H) : FnG P w K mg base CX (k + 1) f fd ps sp := by
  obtain ⟨oc, od, dV, kV, doc, pm, an, cdv, ct, osl, rfl, lk, hcd, _, _⟩ := F.ex
  refine ⟨len, fun A outer s H args us vs Q E hr hg e0 hbd r hsp => ?_⟩
  have up : ∀ b o, base.get? b = some o → s.heap.get? b = some o := fun b o e => (e0.bs b o e).1
  have KX : K.In s.heap := e0.mod.kin.keeps up
  have hkind : ∀ y ∈ ps.zip us, scope.names.lookup y.1 = some .local ∨ (scope.names.lookup y.1 = some .cell ∧ ((cellsFrom (s.heap.objs.size + 1) scope.names []).lookup y.1).isSome = true) := by
    rintro ⟨n, v⟩ hy
    exact (S.par n (List.of_mem_zip hy).1).imp (fun q => q) fun q => ⟨q, PySem.W.cellsFrom_some _ _ _ (.inl q)⟩
  apply codeAny_call_function hr.depth (KX _ _ lk) rfl S.co S.gen rfl (PySem.W.codeRec_of KX hcd)
  apply hbd
  apply wpAny_newFunctionEnv_cells S.kind hkind
  rintro env rfl s1 x
  refine ⟨(e0.mod.nolimit.keeps up).keeps x.toInCall.keep, codeAny_func ?_⟩
  obtain ⟨t, ht, hq⟩ := hb cdv A outer s H vs Q E (hr.deeper _) hg hsp
  have I := inv_start (CX := CX) (E := E) S hr.hd e0 (len _ _ _ _ hsp) r x
  refine wpAny_mono (ht.run [] s1 _ H _ I hq) ?_ fun e s' hs => hs
  rintro (_ | _ | _ | u) s' hs
  · obtain ⟨σ', H', J, q⟩ := hs
    exact ⟨.non, H', J.os, J.bare, J.base, J.hok, rfl, q⟩
  all_goals first
    | (obtain ⟨v, σ', H', J, rv, q⟩ := hs; exact ⟨v, H', J.os, J.bare, J.base, J.hok, rv, q⟩)
    | (obtain ⟨_, _, _, q⟩ := hs; exact q.elim)
end
section
variable {X : Cx} {CX : CXT} {k : Nat} {f : Addr} {fd : FuncData} {ps : List Str} {sp : Sp} {dvs : List V} {ds : List Value} {E : XK}
theorem run_fnG {pins : List (Addr × Obj)} {σ : L2.St} {H : Hp} {s : Shared} {Q : VK} {us : List Value} {vs : List V} (F : FnG X.prog X.w X.K X.mg X.base CX k f fd ps sp) (hr : Room k X.A) (hg : X.A.guards = some []) (hb : Binds X.K fd ps ds) (hd : Vals dvs ds) (hx : Passes CX X E)
    (I : Inv X pins σ H s) (r : Vals vs us) (h : sp (vs ++ dvs) H Q E) : wpAny (model X.prog X.w) X.A (call (.ref f) us) (EP X pins σ Q) X.xe s := by
  have r2 := r.append hd
  have hl : (us ++ ds).length = ps.length := r2.length.symm.trans (F.len _ _ _ _ h)
  refine wpAny_call (codeAny_mono (F.run X.A X.stack s H ⟨us, []⟩ _ _ Q E hr hg I.env0 (hb s us I.kIn hl) r2 h) ?_)
  rintro (e | (_ | _ | _ | u)) s' hq
  · exact hx pins σ H s e s' I hq
  all_goals first
    | exact I.after hq
    | exact False.elim hq
theorem pe_callG {x : Str} {p pos : Pos} {e : Expr} {es : List Expr} {t : TA} (F : FnG X.prog X.w X.K X.mg X.base CX k f fd ps sp) (hr : Room k X.A) (hgd : X.A.guards = some []) (hg : Gl X x) (hm : X.mg x = some (.ref f)) (hk : PySem.W.keepIn X.K (.ref f) = true) (hb : Binds X.K fd ps ds) (hd : Vals dvs ds) (hx : Passes CX X E)
    (ha : PA X (e :: es) t) (hdb : (x == ("__debug__" : Str)) = false := by decide) (he : starEach (e :: es) X.env = (false, eval e X.env) :: starEach es X.env := by rfl) (hpl : (backTo pos (starEach es X.env)).any (·.1) = false := by rfl) :
    PE X (.Call (.Name x p) (e :: es) [] pos) (tCall sp dvs E t) :=
  ⟨fun pins s σ H Q I h => wpAny_Call_Name_kw (ld_glob I hg hm (PySem.W.callWith_K (h₀ := X.base) I.ok.mod.kin hk (thn (ha.run pos pins s σ H _ I h) fun us s1 ⟨vs, H1, I1, r, q⟩ => ⟨I1.kIn, run_fnG F hr hgd hb hd hx I1 r q⟩) he hpl) hdb)⟩
theorem pe_callG0 {x : Str} {p pos : Pos} (F : FnG X.prog X.w X.K X.mg X.base CX k f fd ps sp) (hr : Room k X.A) (hgd : X.A.guards = some []) (hg : Gl X x) (hm : X.mg x = some (.ref f)) (hk : PySem.W.keepIn X.K (.ref f) = true) (hb : Binds X.K fd ps ds) (hd : Vals dvs ds) (hx : Passes CX X E)
    (hdb : (x == ("__debug__" : Str)) = false := by decide) : PE X (.Call (.Name x p) [] [] pos) (tCall sp dvs E tNil) :=
  ⟨fun pins s σ H Q I h => wpAny_Call_Name_kw (ld_glob I hg hm (PySem.W.callWith_K0 I.kIn hk (run_fnG (us := []) F hr hgd hb hd hx I .nil h)) hdb)⟩
end

/-! ### deep promises; an exception: its class, its fields -/
abbrev XD := Value → List (Str × D) → Sg → Prop
abbrev SpD := List D → Sg → KD → XD → Prop
def FldAt (K : PySem.W.Frag) (H : Hp) (d : Option Addr) (fs : List (Str × D)) : Prop := (d = none ∧ fs = []) ∨ ∃ a vs, d = some a ∧ H a = some (.xd ((fs.map (·.1)).zip vs)) ∧ Reps K H (fs.map (·.2)) vs
def PostX (K : PySem.W.Frag) (H : Hp) (s0 : Sg) (E : XD) (F : XK) : Prop := ∀ cls fs s d H', E cls fs s → Stp H s0 H' s → MRep K H' s → FldAt K H' d fs → F cls d H'
theorem PostX.ext {K : PySem.W.Frag} {H H1 : Hp} {s0 s1 : Sg} {E : XD} {F : XK} (e : Stp H s0 H1 s1) (p : PostX K H s0 E F) : PostX K H1 s1 E F := fun c fs s d H' a b m q => p c fs s d H' a (e.trans b) m q
def liftSp (K : PySem.W.Frag) (sp : SpD) : Sp := fun vs H Q E => ∃ ws s R E', Reps K H ws vs ∧ MRep K H s ∧ sp ws s R E' ∧ Post K H s R Q ∧ PostX K H s E' E
abbrev X0 : XD := fun _ _ _ => False
theorem postX0 {K : PySem.W.Frag} {H : Hp} {s : Sg} {F : XK} : PostX K H s X0 F := fun _ _ _ _ _ h => h.elim
/-- what a body may end with: less may be said than is known -/
structure Less (s s' : Sg) : Prop where
  m : ∀ a o, s'.M a = some o → s.M a = some o
  n : s'.n ≤ s.n
  v : s'.pv = s.pv
theorem Less.refl (s : Sg) : Less s s := ⟨fun _ _ h => h, Nat.le_refl _, rfl⟩
theorem Less.put {s : Sg} {p : Addr} {o : MO} (h : s.M p = none) : Less (s.put p o) s := ⟨fun a u e => by rw [show (s.put p o).M a = s.M a from Mm.put_ne fun z => by subst z; rw [h] at e; cases e]; exact e, Nat.le_refl _, rfl⟩
theorem Less.trans {a b c : Sg} (h : Less a b) (g : Less b c) : Less a c := ⟨fun x o e => h.m x o (g.m x o e), Nat.le_trans g.n h.n, g.v.trans h.v⟩
/-- a state that is known may be told as another one -/
def Clo (s s' : Sg) : Prop := ∀ K H, MRep K H s → MRep K H s' ∧ Stp H s H s'
theorem Less.clo {s s' : Sg} (l : Less s s') : Clo s s' := fun K H m => ⟨m.weak l.m l.n l.v, .weak l.m l.v⟩
theorem Clo.refl (s : Sg) : Clo s s := (Less.refl s).clo
theorem Clo.trans {a b c : Sg} (h : Clo a b) (g : Clo b c) : Clo a c := fun K H m => by
  obtain ⟨m1, e1⟩ := h K H m
  obtain ⟨m2, e2⟩ := g K H m1
  exact ⟨m2, e1.trans e2⟩
def Lw (R : KD) : KD := fun w s => ∃ s', Clo s s' ∧ R w s'
theorem Lw.of {R : KD} {w : D} {s : Sg} (h : R w s) : Lw R w s := ⟨s, .refl s, h⟩
theorem Post.lw {K : PySem.W.Frag} {H : Hp} {s : Sg} {R : KD} {Q : VK} (p : Post K H s R Q) : Post K H s (Lw R) Q := fun w s1 v H' ⟨s', l, q⟩ e m r => by
  obtain ⟨m1, e1⟩ := l K H' m
  exact p w s' v H' q (e.trans e1) m1 r
/-! opening and closing the box -/
def rawM (M : Mm) : Bx → List Addr → Mm
  | .inr ns :: r, a :: as => (rawM M r as).put a (.lst (ns.map D.int))
  | .inl _ :: r, as => rawM M r as
  | _, _ => M
def rawV : Bx → List Addr → List D
  | .inr _ :: r, a :: as => .ref a :: rawV r as
  | .inl i :: r, as => .int i :: rawV r as
  | _, _ => []
def RawAt (M : Mm) : Bx → List Addr → Prop
  | .inr ns :: r, a :: as => M a = some (.lst (ns.map D.int)) ∧ RawAt M r as
  | .inl _ :: r, as => RawAt M r as
  | [], as => as = []
  | _, _ => False
theorem BxAt.raw {K : PySem.W.Frag} {H : Hp} : ∀ {st : Bx} {vs : List V} {as : List Addr}, BxAt H st vs as → Reps K H (rawV st as) vs
  | [], vs, as, h => by obtain ⟨rfl, rfl⟩ := h; rfl
  | .inl i :: r, vs, as, h => by obtain ⟨vs', rfl, h'⟩ := h; exact ⟨_, _, rfl, rfl, BxAt.raw h'⟩
  | .inr ns :: r, vs, as, h => by obtain ⟨a, vs', as', rfl, rfl, e, h'⟩ := h; exact ⟨_, _, rfl, rfl, BxAt.raw h'⟩
theorem rawM_off {M : Mm} : ∀ {st : Bx} {as : List Addr} {b : Addr}, b ∉ as → rawM M st as b = M b
  | [], as, b, h => rfl
  | .inl i :: r, as, b, h => rawM_off (st := r) h
  | .inr ns :: r, [], b, h => rfl
  | .inr ns :: r, a :: as, b, h => by
    show (rawM M r as).put a _ b = _
    rw [Mm.put_ne (fun e => h (by rw [e]; exact List.mem_cons_self)), rawM_off fun q => h (List.mem_cons_of_mem _ q)]
theorem BxAt.rawAt {H : Hp} {M : Mm} : ∀ {st : Bx} {vs : List V} {as : List Addr}, BxAt H st vs as → as.Nodup → RawAt (rawM M st as) st as ∧ ∀ b ∈ as, ∃ ns : List Int, rawM M st as b = some (.lst (ns.map D.int)) ∧ H b = some (.lst (ns.map V.int))
  | [], vs, as, h, _ => by obtain ⟨rfl, rfl⟩ := h; exact ⟨rfl, fun b hb => nomatch hb⟩
  | .inl i :: r, vs, as, h, nd => by
    obtain ⟨vs', rfl, h'⟩ := h
    have g := BxAt.rawAt (M := M) h' nd
    exact ⟨by cases as <;> exact g.1, by cases as <;> exact g.2⟩
  | .inr ns :: r, vs, as, h, nd => by
    obtain ⟨a, vs', as', rfl, rfl, e, h'⟩ := h
    obtain ⟨n1, n2⟩ := List.nodup_cons.mp nd
    obtain ⟨g1, g2⟩ := BxAt.rawAt (M := M) h' n2
    have ne : ∀ b ∈ as', b ≠ a := fun b hb q => n1 (q ▸ hb)
    have up : ∀ {st : Bx} {bs : List Addr}, (∀ b ∈ bs, b ≠ a) → RawAt (rawM M r as') st bs → RawAt ((rawM M r as').put a (.lst (ns.map D.int))) st bs := by
      intro st
      induction st with
      | nil => intro bs _ h; cases bs <;> first | exact h | cases h
      | cons x st ih =>
        intro bs hb h
        cases x with
        | inl i => exact ih hb h
        | inr ms =>
          cases bs with
          | nil => exact h.elim
          | cons b bs => exact ⟨by rw [Mm.put_ne (hb b List.mem_cons_self)]; exact h.1, ih (fun c hc => hb c (List.mem_cons_of_mem _ hc)) h.2⟩
    refine ⟨⟨Mm.put_same, up ne g1⟩, fun b hb => ?_⟩
    rcases List.mem_cons.mp hb with rfl | hb
    · exact ⟨ns, Mm.put_same, e⟩
    · obtain ⟨ms, q1, q2⟩ := g2 b hb
      exact ⟨ms, by rw [show rawM M (.inr ns :: r) (a :: as') b = rawM M r as' b from Mm.put_ne (ne b hb)]; exact q1, q2⟩
/-- the box is opened -/
theorem box_open {K : PySem.W.Frag} {H : Hp} {s : Sg} {p : Addr} {I : Nat → Bx → Prop} (m : MRep K H s) (h : s.M p = some (.box I)) :
    ∃ st, (∃ k, s.n ≤ k ∧ I k st) ∧ s.pv.Nodup ∧ p ∉ s.pv ∧ (∀ b ∈ s.pv, s.M b = none) ∧ RawAt (rawM s.M st s.pv) st s.pv ∧
      MRep K H ⟨(rawM s.M st s.pv).put p (.lst (rawV st s.pv)), s.n, []⟩ ∧ Stp H s H ⟨(rawM s.M st s.pv).put p (.lst (rawV st s.pv)), s.n, []⟩ := by
  obtain ⟨st, vs, hI, h1, h2, h3⟩ := m.at_ p _ h
  obtain ⟨g1, g2⟩ := BxAt.rawAt (M := s.M) h2 h3
  have np : p ∉ s.pv := fun q => by rw [(m.pvs p q).2] at h; cases h
  refine ⟨st, hI, h3, np, fun b hb => (m.pvs b hb).2, g1, ⟨fun a o e => ?_, fun a b J1 J2 e1 e2 => ?_, fun b hb => nomatch hb⟩, ⟨.refl _, fun b o h4 h5 h6 h7 => ⟨h4, ?_, fun q => nomatch q⟩⟩⟩
  · dsimp only at e
    by_cases ha : a = p
    · subst ha
      rw [show (rawM s.M st s.pv).put a (.lst (rawV st s.pv)) a = _ from Mm.put_same] at e
      cases e
      exact ⟨vs, h1, h2.raw⟩
    · rw [show (rawM s.M st s.pv).put p (.lst (rawV st s.pv)) a = _ from Mm.put_ne ha] at e
      by_cases hv : a ∈ s.pv
      · obtain ⟨ns, q1, q2⟩ := g2 a hv
        rw [q1] at e
        cases e
        exact ⟨_, q2, Reps.ofInts⟩
      · rw [rawM_off hv] at e
        have q := m.at_ a o e
        cases o with
        | lst ws => exact q
        | dic ks ws => exact q
        | ins C ns ws => exact q
        | box J => exact absurd (m.one a p J I e h) ha
  · have key : ∀ a J, (rawM s.M st s.pv).put p (.lst (rawV st s.pv)) a = some (.box J) → False := fun a J e => by
      by_cases ha : a = p
      · subst ha
        rw [Mm.put_same] at e
        cases e
      · rw [Mm.put_ne ha] at e
        by_cases hv : a ∈ s.pv
        · obtain ⟨ns, q1, q2⟩ := g2 a hv
          rw [q1] at e
          cases e
        · rw [rawM_off hv] at e
          exact ha (m.one a p J I e h)
    exact (key a J1 e1).elim
  · have nbp : b ≠ p := fun q => by subst q; rw [h] at h6; cases h6
    dsimp only
    rw [show (rawM s.M st s.pv).put p (.lst (rawV st s.pv)) b = _ from Mm.put_ne nbp, rawM_off h7]
    exact h6
theorem RawAt.bx {K : PySem.W.Frag} {H : Hp} {s : Sg} (m : MRep K H s) : ∀ {st : Bx} {as : List Addr} {vs : List V}, RawAt s.M st as → Reps K H (rawV st as) vs → BxAt H st vs as ∧ ∀ b ∈ as, ∃ ns : List Int, s.M b = some (.lst (ns.map D.int))
  | [], as, vs, h, r => by
    cases (show as = [] from h)
    cases (show vs = [] from r)
    exact ⟨⟨rfl, rfl⟩, fun b hb => nomatch hb⟩
  | .inl i :: st, as, vs, h, r => by
    obtain ⟨v, vs', rfl, r1, r2⟩ := r
    cases (show v = .int i from r1)
    obtain ⟨g1, g2⟩ := RawAt.bx m (st := st) h r2
    exact ⟨⟨vs', rfl, g1⟩, g2⟩
  | .inr ns :: st, [], vs, h, r => h.elim
  | .inr ns :: st, a :: as, vs, h, r => by
    obtain ⟨v, vs', rfl, r1, r2⟩ := r
    cases (show v = .ref a from r1)
    obtain ⟨g1, g2⟩ := RawAt.bx m (st := st) h.2 r2
    obtain ⟨us, e, q⟩ := m.at_ a _ h.1
    cases q.ints
    refine ⟨⟨a, vs', as, rfl, rfl, e, g1⟩, fun b hb => ?_⟩
    rcases List.mem_cons.mp hb with rfl | hb
    · exact ⟨ns, h.1⟩
    · exact g2 b hb
/-- the box is closed -/
theorem box_close {s s' : Sg} {p : Addr} {I : Nat → Bx → Prop} {st : Bx} {k : Nat} (hI : I k st) (hk : s'.n ≤ k) (h1 : s.M p = some (.lst (rawV st s'.pv))) (h2 : RawAt s.M st s'.pv) (h3 : s'.pv.Nodup) (h4 : p ∉ s'.pv) (h5 : s.pv = [])
    (h6 : s'.M p = some (.box I)) (h7 : ∀ b ∈ s'.pv, s'.M b = none) (h8 : ∀ b o, b ≠ p → s'.M b = some o → s.M b = some o ∧ ∀ J, o ≠ .box J) : Clo s s' := fun K H m => by
  obtain ⟨vs, e, r⟩ := m.at_ p _ h1
  obtain ⟨g1, g2⟩ := RawAt.bx m h2 r
  have pm : ∀ b ∈ s'.pv, Mut (H b) := fun b hb => by
    obtain ⟨ns, q⟩ := g2 b hb
    exact (m.at_ b _ q).mut
  refine ⟨⟨fun a o ea => ?_, fun a b J1 J2 e1 e2 => ?_, fun b hb => ⟨pm b hb, h7 b hb⟩⟩, ⟨.refl _, fun b o q1 q2 q3 q4 => ⟨q1, ?_, fun hb => ?_⟩⟩⟩
  · by_cases ha : a = p
    · subst ha
      rw [h6] at ea
      cases ea
      exact ⟨st, vs, ⟨k, hk, hI⟩, e, g1, h3⟩
    · obtain ⟨z1, z2⟩ := h8 a o ha ea
      have q := m.at_ a o z1
      cases o with
      | lst ws => exact q
      | dic ks ws => exact q
      | ins C ns ws => exact q
      | box J => exact absurd rfl (z2 J)
  · have key : ∀ a J, s'.M a = some (.box J) → a = p := fun a J e => by
      by_cases ha : a = p
      · exact ha
      · exact absurd rfl ((h8 a _ ha e).2 J)
    rw [key a J1 e1, key b J2 e2]
  · by_cases hb : b = p
    · subst hb; rw [h1] at q3; cases q3
    · cases z : s'.M b with
      | none => rfl
      | some o' => rw [(h8 b o' hb z).1] at q3; cases q3
  · obtain ⟨ns, q⟩ := g2 b hb
    rw [q] at q3
    cases q3
def startD (N : List Str) (ws : List D) : Ev := ws.map some ++ List.replicate (N.length - ws.length) none
theorem renv_start {K : PySem.W.Frag} {H : Hp} {N : List Str} {ws : List D} {vs : List V} (r : Reps K H ws vs) : REnv K H (startD N ws) (L2.start N vs) := by
  unfold startD L2.start
  refine ⟨by simp [r.len], fun i w h => ?_⟩
  have hi : i < ws.length := by
    by_cases hi : i < ws.length
    · exact hi
    · rw [List.getElem?_append_right (by simpa using hi), List.getElem?_replicate] at h
      split at h <;> cases h
  rw [List.getElem?_append_left (by simpa using hi), List.getElem?_map] at h
  obtain ⟨w', e1, e2⟩ := Option.map_eq_some_iff.mp h
  cases e2
  obtain ⟨v, e3, e4⟩ := r.get e1
  exact ⟨v, by rw [List.getElem?_append_left (by rw [List.length_map, ← r.len]; exact hi), List.getElem?_map, e3]; rfl, e4⟩
/-- a def as others call it -/
structure Df (P : Program) (w : World) (K : PySem.W.Frag) (mg : Str → Option Value) (base : Heap) (CX : CXT) (k : Nat) (x : Str) (ps : List Str) (sp : SpD) : Prop where
  ex : ∃ f fd, mg x = some (.ref f) ∧ PySem.W.keepIn K (.ref f) = true ∧ Binds K fd ps [] ∧ FnG P w K mg base CX k f fd ps (liftSp K sp)
section
variable {P : Program} {w : World} {K : PySem.W.Frag} {mg : Str → Option Value} {base : Heap} {CX : CXT} {j k : Nat} {x : Str} {ps : List Str} {sp sp' : SpD}
theorem Df.mono (F : Df P w K mg base CX j x ps sp) (h : j ≤ k) : Df P w K mg base CX k x ps sp := by
  obtain ⟨f, fd, a, b, c, d⟩ := F.ex
  exact ⟨f, fd, a, b, c, d.mono h⟩
theorem Df.imp (F : Df P w K mg base CX k x ps sp) (h : ∀ ws s R E, sp' ws s R E → sp ws s R E) : Df P w K mg base CX k x ps sp' := by
  obtain ⟨f, fd, a, b, c, d⟩ := F.ex
  exact ⟨f, fd, a, b, c, d.imp fun vs H Q E ⟨ws, s, R, E', h1, h2, h3, h4, h5⟩ => ⟨ws, s, R, E', h1, h2, h _ _ _ _ h3, h4, h5⟩⟩
end
def dCall (sp : SpD) (t : DA) : DE := fun env s R => t env s fun ws s1 => sp ws s1 R X0
section
variable {X : Cx} {CX : CXT} {k : Nat} {x : Str} {ps : List Str} {sp : SpD}
theorem pd_call {p pos : Pos} {e : Expr} {es : List Expr} {t : DA} (F : Df X.prog X.w X.K X.mg X.base CX0 k x ps sp) (hr : Room k X.A) (hgd : X.A.guards = some []) (hg : Gl X x) (ha : PDA X (e :: es) t)
    (hdb : (x == ("__debug__" : Str)) = false := by decide) (he : starEach (e :: es) X.env = (false, eval e X.env) :: starEach es X.env := by rfl) (hpl : (backTo pos (starEach es X.env)).any (·.1) = false := by rfl) :
    PD X (.Call (.Name x p) (e :: es) [] pos) (dCall sp t) := by
  obtain ⟨f, fd, hm, hk, hb, G⟩ := F.ex
  refine pe_imp (pe_callG (E := E0) G hr hgd hg hm hk hb .nil pass0 ha hdb he hpl) fun σ H Q ⟨env, s, R, h1, h2, h3, h4⟩ => ?_
  refine ⟨env, s, _, h1, h2, h3, fun ws s1 vs H1 q e1 m1 r1 => ?_⟩
  show liftSp X.K sp (vs ++ []) H1 Q E0
  rw [List.append_nil]
  exact ⟨ws, s1, R, X0, r1, m1, q, h4.ext e1, postX0⟩
end
/-- a def keeps a deep promise, by its body's reading -/
theorem df_of {P : Program} {w : World} {K : PySem.W.Frag} {mg : Str → Option Value} {base : Heap} {k : Nat} {f : Addr} {fd : FuncData} {x qual : Str} {params : Arguments} {body : List Stmt} {scope : Scope} {kws : List (Str × V)} {N ps : List Str} {sp : SpD} {tb : DS}
    (F : FunD K x qual params body scope [] kws f fd) (S : FnScope N ps scope) (hm : mg x = some (.ref f)) (hb : Binds K fd ps [])
    (body_ok : ∀ (cdv : Value) (A : Around) (outer : List Env) (s : Shared) (H : Hp) (E : XK), Room k (A.deeper (envOfC qual scope s.heap.objs.size f cdv)) → (A.deeper (envOfC qual scope s.heap.objs.size f cdv)).guards = some [] → PDSs (cxOf CX0 P w K mg base N qual scope f cdv A outer s H E).nox body tb)
    (sem : ∀ ws s R, sp ws s R X0 → ws.length = ps.length ∧ ∀ K H, MRep K H s → ∃ s1, MRep K H s1 ∧ Stp H s H s1 ∧ tb { nx := fun _ s' => Lw R .non s', rt := Lw R } (startD N ws) s1)
    (noX : ∀ ws s R E, sp ws s R E → sp ws s R X0) : Df P w K mg base CX0 (k + 1) x ps sp := by
  refine ⟨f, fd, hm, F.kp, hb, fnG_of F S (fun vs H Q E ⟨ws, s, R, E', h1, h2, h3, h4, h5⟩ => by rw [← h1.len]; exact (sem ws s R (noX _ _ _ _ h3)).1) fun cdv A outer s0 H vs Q E hr hg ⟨ws, s, R, E', h1, h2, h3, h4, h5⟩ => ?_⟩
  obtain ⟨s1, m1, e1, q⟩ := (sem ws s R (noX _ _ _ _ h3)).2 K H h2
  have h6 := (h4.ext e1).lw
  exact ⟨_, (body_ok cdv A outer s0 H E hr hg).nox, startD N ws, s1, _, renv_start h1, m1, q, ⟨fun env s' σ H' q e m r => h6 .non s' _ H' q e m rfl, h6, fun _ _ _ _ q => q.elim, fun _ _ _ _ q => q.elim⟩⟩
/-- the same where nothing is to be opened -/
theorem sem_plain {N ps : List Str} {sp : SpD} {tb : DS} (h : ∀ ws s R, sp ws s R X0 → ws.length = ps.length ∧ tb { nx := fun _ s' => Lw R .non s', rt := Lw R } (startD N ws) s) :
    ∀ ws s R, sp ws s R X0 → ws.length = ps.length ∧ ∀ K H, MRep K H s → ∃ s1, MRep K H s1 ∧ Stp H s H s1 ∧ tb { nx := fun _ s' => Lw R .non s', rt := Lw R } (startD N ws) s1 :=
  fun ws s R q => ⟨(h ws s R q).1, fun K H m => ⟨s, m, .refl _ _, (h ws s R q).2⟩⟩
end Dz
namespace Dz
open PySem PySem.Spec PyProof.Rows L2

/-! ### the law's call: the script is locked, nothing else is tracked -/
def scH (a : Addr) (z : HO) (c : Bool) : Hp := fun b => if c = true ∧ b = a then some z else none
theorem scH_some {a b : Addr} {z u : HO} {c : Bool} (h : scH a z c b = some u) : c = true ∧ b = a ∧ u = z := by
  unfold scH at h
  split at h
  · rename_i e
    exact ⟨e.1, e.2, (Option.some.inj h).symm⟩
  · cases h
theorem scH_off {a b : Addr} {z : HO} {c : Bool} (h : ¬ (c = true ∧ b = a)) : scH a z c b = none := if_neg h
theorem lawG {P : Program} {w : World} {K : PySem.W.Frag} {mg mb : Str → Option Value} {CX : CXT} {k : Nat} {fa a : Addr} {fd : FuncData} {x : Str} {sp : SpD} {s : Shared} {vs : List Value} {ns : List Int}
    (KX : K.In s.heap) (hns : s.heap.Ns mainGlobals mg) (hb : s.heap.Ns builtinsNs mb) (hbb : ∀ x : Str, x ≠ "__name__" → mb x = bootBuiltins x) (hlim : s.heap.NoLimit) (hg : s.gens = #[])
    (ha : s.heap.get? a = some { cls := .type "list", data := .seq vs.toArray }) (hi : IntsAre vs ns) (hl : ns.length ≤ sizeLine) (hr : Room k callerA)
    (F : ∀ base : Heap, K.In base → base.Ns mainGlobals mg → FnG P w K mg base CX k fa fd [x] (liftSp K sp)) (hbind : ∀ (t : Shared) (u : Value), BindsTo t fd ⟨[u], []⟩ [(x, u)])
    (hsp : sp [.lst (ns.map D.int)] ⟨fun _ => none, 1000000000000, []⟩ (fun v _ => v = .bl true) X0)
    (hCX : ∀ H e s', CX [] H s (fun _ _ _ => False) e s' → False) :
    codeAny (model P w) callerA (.call (.ref fa) ⟨[.ref a], []⟩) (fun r s' => r = .ok (.ret (.bool true)) ∧ OldK s.heap s'.heap ∧ s'.os = s.os ∧ AllBare s'.gens) s := by
  let z : HO := .frz { cls := .type "list", data := .seq vs.toArray } (.lst (ns.map V.int))
  let H : Hp := scH a z (K.lookup a).isNone
  have rv := vals_ints hi
  have lenV := hi.length
  have hok : HOk P w H s.heap := fun b u e => by
    obtain ⟨_, rfl, rfl⟩ := scH_some e
    exact ⟨ha, by rw [List.length_map]; exact hl, vs, _, rv, ha⟩
  have kN : ∀ {b : Addr} {o : Obj}, K.lookup b = some o → H b = none := fun {b o} e => scH_off fun ⟨c, q⟩ => by subst q; rw [e] at c; cases c
  have dN : ∀ {b : Addr} {o : Obj} {es : Array DictEntry} {ep : Nat}, s.heap.get? b = some o → o.data = .dict es ep → H b = none := fun {b o es ep} e d => scH_off fun ⟨_, q⟩ => by
    subst q
    rw [ha] at e
    cases e
    cases d
  have hK : K.In (hidT s.heap H) := fun b o e => hidT_get (KX b o e) (kN e)
  have nsH : ∀ {b : Addr} {m : Str → Option Value}, s.heap.Ns b m → (hidT s.heap H).Ns b m := by
    rintro b m ⟨o, es, ep, e, d, r⟩
    exact ⟨o, es, ep, hidT_get e (dN e d), d, r⟩
  have nl : (hidT s.heap H).NoLimit := by
    obtain ⟨mc, h1, h2⟩ := hlim
    exact ⟨mc, nsH h1, h2⟩
  have e0 : Env0 P w K mg (hidT s.heap H) callerA [] s H := ⟨rfl, ⟨hK, nsH hns, ⟨mb, nsH hb, hbb⟩, nl⟩, fun b o e => of_hidT e, Nat.le_of_eq (hidT_size _ _), trivial, fun b q => by simp [frs] at q, hok, .of_eq hg⟩
  have hS : FzL K H a (ns.map V.int) := by
    cases q : K.lookup a with
    | none =>
      have : H a = some z := if_pos ⟨by rw [q]; rfl, rfl⟩
      exact .inl (.inr ⟨_, fz_frz this⟩)
    | some o =>
      have e := KX a o q
      rw [ha] at e
      cases e
      exact .inr ⟨_, vs.toArray, _, q, rfl, rfl, rfl, by rw [List.size_toArray, lenV]; exact hl, by simpa using rv⟩
  have r0 : Reps K H [.lst (ns.map D.int)] [.ref a] := ⟨.ref a, [], rfl, ⟨a, _, rfl, hS, Reps.ofInts⟩, rfl⟩
  have m0 : MRep K H ⟨fun _ => none, 1000000000000, []⟩ := by
    refine ⟨fun _ _ e => ?_, fun _ _ _ _ e => ?_, fun _ e => ?_⟩
    · cases e
    · cases e
    · cases e
  have start : liftSp K sp [.ref a] H (fun v _ => v = .bl true) fun _ _ _ => False :=
    ⟨_, _, _, X0, r0, m0, hsp, fun w s' v H' q _ _ r => by subst q; exact r, fun _ _ _ _ _ q => q.elim⟩
  refine codeAny_mono ((F _ hK (nsH hns)).run callerA [] s H ⟨[.ref a], []⟩ [.ref a] [.ref a] _ _ hr rfl e0 (hbind s (.ref a)) (.cons rfl .nil) start) ?_
  rintro (e | (_ | _ | _ | u)) s' h
  · exact (hCX H e s' h).elim
  · exact h.elim
  · exact h.elim
  · exact h.elim
  · obtain ⟨v, H', os, bare, un, hok', r', q⟩ := h
    subst q
    cases (show u = Value.bool true from r')
    refine ⟨rfl, OldK.of_keep fun b o e => ?_, os, bare⟩
    cases q : H b with
    | none => exact un.keep b o e q (by simp [frs]) (by simp)
    | some y =>
      obtain ⟨_, rfl, rfl⟩ := scH_some q
      have := (hok' b _ (un.frzs b _ _ q)).1
      rw [ha] at e
      cases e
      exact this
/-- from the head's facts to the row -/
theorem walkG {l : PySem.W.OpenLaw} {n k : Nat} {q : Program} {loose : List Str} {XP : (Str → Option Value) → Heap → Prop} {YP : World → Heap → Prop} {d : DefRec} {CX : World → CXT} {x : Str}
    (hn : l.most = some n) (hn2 : n ≤ sizeLine) (hdf : d.params.defaults = []) (hr : Room k callerA)
    (F : ∀ (w : World) (mg : Str → Option Value) (fa : Addr) (h : Heap), YP w h → h.Ns mainGlobals mg → mg d.name = some (.ref fa) →
      ∃ (K : PySem.W.Frag) (fd : FuncData) (sp : SpD), K.In h ∧ (∀ (s : Shared) (u : Value), BindsTo s fd ⟨[u], []⟩ [(x, u)]) ∧
        (∀ ns : List Int, ns.length ≤ n → (∀ z ∈ ns, Builtin.Int.intBits z ≤ 1048576) → sp [.lst (ns.map D.int)] ⟨fun _ => none, 1000000000000, []⟩ (fun v _ => v = .bl true) X0) ∧
        ∀ base : Heap, K.In base → base.Ns mainGlobals mg → FnG l.prog w K mg base (CX w) k fa fd [x] (liftSp K sp))
    (hCX : ∀ (w : World) (H : Hp) (s : Shared) (e : Value) (s' : Shared), CX w [] H s (fun _ _ _ => False) e s' → False) :
    PySem.W.WalkO q loose XP YP l.row.toRowW d [] (fun f vs => PySem.call f vs) := by
  refine Att.attach_callB hn hdf fun w s0 s1 mg mb fa o pm cd doc a vs ns G Y ho hd hcd hmg hobj hints hlen hbits hg => ?_
  obtain ⟨K, fd, sp, KX, hb, hsp, hF⟩ := F w mg fa _ Y G.T.g hmg
  exact lawG KX G.T.g G.T.b G.T.builtins G.T.nolimit hg hobj hints (Nat.le_trans hlen hn2) hr hF hb (hsp ns hlen hbits) fun H e s' => hCX w H s1 e s'
end Dz
namespace Dz
open PySem PySem.Spec PyProof.Rows L2

/-! ### short names for the printed readings -/
abbrev rSub : D2 := rI (fun _ _ => True) fun i j => i - j
abbrev rDiv : D2 := rI CDiv fun i j => i / j
abbrev rMod : D2 := rI (fun _ j => 0 < j) fun i j => i % j
abbrev rPow : D2 := rI CPow fun i j => i ^ j.toNat
abbrev rLt : D2 := rCmp (fun i j => decide (i < j)) fun a b => decide (a < b)
abbrev rLe : D2 := rCmp (fun i j => decide (i ≤ j)) fun a b => !decide (b < a)
abbrev rGt : D2 := rCmp (fun i j => decide (j < i)) fun a b => decide (b < a)
abbrev rGe : D2 := rCmp (fun i j => decide (j ≤ i)) fun a b => !decide (a < b)
abbrev rEq : D2 := rEqv id
abbrev rNe : D2 := rEqv (!·)
abbrev rIs : D2 := rIsN id
abbrev rIsNot : D2 := rIsN (!·)
abbrev rMax2 : DL := rInt2 fun i j => if j > i then j else i
abbrev rMin2 : DL := rInt2 fun i j => if j < i then j else i
abbrev rAll : DL := rAllU fun l => l.all id
abbrev rAny : DL := rAllU fun l => l.any id
theorem bb_len : bootBuiltins "len" = some (.builtin "len") := by decide +kernel
theorem bb_abs : bootBuiltins "abs" = some (.builtin "abs") := by decide +kernel
theorem bb_max : bootBuiltins "max" = some (.builtin "max") := by decide +kernel
theorem bb_min : bootBuiltins "min" = some (.builtin "min") := by decide +kernel
theorem bb_int : bootBuiltins "int" = some (.type "int") := by decide +kernel
theorem bb_str : bootBuiltins "str" = some (.type "str") := by decide +kernel
theorem bb_bool : bootBuiltins "bool" = some (.type "bool") := by decide +kernel
theorem bb_list : bootBuiltins "list" = some (.type "list") := by decide +kernel
theorem bb_tuple : bootBuiltins "tuple" = some (.type "tuple") := by decide +kernel
theorem bb_dict : bootBuiltins "dict" = some (.type "dict") := by decide +kernel
theorem bb_set : bootBuiltins "set" = some (.type "set") := by decide +kernel
theorem bb_sum : bootBuiltins "sum" = some (.builtin "sum") := by decide +kernel
theorem bb_all : bootBuiltins "all" = some (.builtin "all") := by decide +kernel
theorem bb_any : bootBuiltins "any" = some (.builtin "any") := by decide +kernel
theorem bb_repr : bootBuiltins "repr" = some (.builtin "repr") := by decide +kernel
theorem bb_sorted : bootBuiltins "sorted" = some (.builtin "sorted") := by decide +kernel
theorem bb_isinstance : bootBuiltins "isinstance" = some (.builtin "isinstance") := by decide +kernel
section
variable {X : Cx} {pos : Pos}
/-- -a -/
def rNeg : D1 := fun x s R => match x with
  | .int i => R (.int (-i)) s
  | _ => False
theorem pd_neg {a : Expr} {ta : DE} (ha : PD X a ta) : PD X (.UnaryOp .USub a pos) (dUn rNeg ta) :=
  pe_imp (pe_un un_neg ha) fun σ H Q ⟨env, s, R, h1, h2, h3, h4⟩ => ⟨env, s, _, h1, h2, h3, fun w s1 v H1 q e m r => by
    unfold rNeg at q
    split at q
    · rename_i i
      exact ⟨i, r, h4 _ _ _ _ q e m rfl⟩
    · exact q.elim⟩
/-- a module's numbers and texts -/
theorem pd_gI {x : Str} {i : Int} (hg : Gl X x) (hm : ∃ t, X.mg x = some (.int i t)) (hd : (x == ("__debug__" : Str)) = false := by decide) : PD X (.Name x pos) (dC (.int i)) := by
  obtain ⟨t, h⟩ := hm
  exact pd_glob (v := .int i) hg h ⟨t, rfl⟩ rfl hd
theorem pd_gS {x z : Str} (hg : Gl X x) (hm : ∃ t, X.mg x = some (.str z t)) (hd : (x == ("__debug__" : Str)) = false := by decide) : PD X (.Name x pos) (dC (.str z)) := by
  obtain ⟨t, h⟩ := hm
  exact pd_glob (v := .str z) hg h ⟨t, rfl⟩ rfl hd
/-- a < b < c -/
def dChain (r r' : D2) (ta tb tc : DE) : DE := fun env s R => ta env s fun x s1 => tb env s1 fun y s2 => r x y s2 fun z s3 => match z with
  | .bl true => tc env s3 fun w s4 => r' y w s4 R
  | .bl false => R (.bl false) s3
  | _ => False
theorem dChain_imp (K : PySem.W.Frag) (r r' : D2) (ta tb tc : DE) : ∀ σ H Q, liftE K (dChain r r' ta tb tc) σ H Q → tChain (lift2 K r) (lift2 K r') (liftE K ta) (liftE K tb) (liftE K tc) σ H Q := fun σ H Q ⟨env, s, R, h1, h2, h3, h4⟩ =>
  ⟨env, s, _, h1, h2, h3, fun x s1 v H1 q e1 m1 r1 => ⟨env, s1, _, h1.ext e1.ext, m1, q, fun y s2 u H2 q2 e2 m2 r2 => ⟨x, y, s2, _, Rep.ext e2.ext _ _ r1, r2, m2, q2, fun z s3 zv H3 q3 e3 m3 r3 => by
    have e := (e1.trans e2).trans e3
    split at q3
    · exact ⟨true, r3, by rw [if_pos rfl]; exact ⟨env, s3, _, h1.ext e.ext, m3, q3, fun w s4 wv H4 q4 e4 m4 r4 => ⟨y, w, s4, R, Rep.ext e4.ext _ _ (Rep.ext e3.ext _ _ r2), r4, m4, q4, h4.ext (e.trans e4)⟩⟩⟩
    · exact ⟨false, r3, by rw [if_neg Bool.false_ne_true]; exact h4 _ _ _ _ q3 e m3 rfl⟩
    · exact q3.elim⟩⟩⟩
theorem pd_chain {op op' : CmpOp} {a b c : Expr} {ta tb tc : DE} {r r' : D2} (ho : OpR X (compareOp op) (lift2 X.K r)) (ho' : OpR X (compareOp op') (lift2 X.K r')) (ha : PD X a ta) (hb : PD X b tb) (hc : PD X c tc) (hm : lastMarks [op, op'] [b, c] = false := by with_unfolding_all rfl) :
    PD X (.Compare a [op, op'] [b, c] pos) (dChain r r' ta tb tc) := pe_imp (pe_chain ho ho' ha hb hc hm) (dChain_imp X.K r r' ta tb tc)
theorem pdt_chain {op op' : CmpOp} {a b c : Expr} {ta tb tc : DE} {r r' : D2} (ho : OpR X (compareOp op) (lift2 X.K r)) (ho' : OpR X (compareOp op') (lift2 X.K r')) (ha : PD X a ta) (hb : PD X b tb) (hc : PD X c tc) (hm : lastMarks [op, op'] [b, c] = false := by with_unfolding_all rfl) :
    PDT X (.Compare a [op, op'] [b, c] pos) (dB (dChain r r' ta tb tc)) :=
  pt_imp (pt_chain ho ho' ha hb hc hm) fun σ H Q ⟨env, s, R, h1, h2, h3, h4⟩ => dChain_imp X.K r r' ta tb tc σ H _ ⟨env, s, _, h1, h2, h3, fun w s1 v H1 q e1 m1 r1 => by
    cases w with
    | bl b => exact ⟨b, r1, h4 b s1 H1 q e1 m1⟩
    | _ => exact q.elim⟩
end
end Dz
namespace Dz
open PySem PySem.Spec PyProof.Rows L2

/-! ### trees of letters -/
def chr (c : Nat) : D := .str ⟨#[c]⟩
inductive Tr where
  | nil
  | node (l : Tr) (a : Nat) (r : Tr)
deriving DecidableEq
def Tr.d : Tr → D
  | .nil => .non
  | .node l a r => .tup [l.d, chr a, r.d]
def Tr.size : Tr → Nat
  | .nil => 0
  | .node l _ r => l.size + 1 + r.size
def Tr.depth : Tr → Nat
  | .nil => 0
  | .node l _ r => 1 + max l.depth r.depth
def Tr.mir : Tr → Tr
  | .nil => .nil
  | .node l a r => .node r.mir a l.mir
/-- every label is such -/
def Tr.all (p : Nat → Prop) : Tr → Prop
  | .nil => True
  | .node l a r => l.all p ∧ p a ∧ r.all p
theorem Tr.depth_le (t : Tr) : t.depth ≤ t.size := by
  induction t with
  | nil => exact Nat.le_refl _
  | node l a r h1 h2 => simp only [Tr.depth, Tr.size]; omega
theorem Tr.size_mir (t : Tr) : t.mir.size = t.size := by
  induction t with
  | nil => rfl
  | node l a r h1 h2 => simp only [Tr.mir, Tr.size, h1, h2]; omega
theorem chr_inj {a b : Nat} (h : chr a = chr b) : a = b := by
  unfold chr at h
  injection h with h
  injection h with h
  simpa using h
theorem Tr.d_inj : ∀ {t u : Tr}, t.d = u.d → t = u
  | .nil, .nil, _ => rfl
  | .nil, .node _ _ _, h => by simp [Tr.d] at h
  | .node _ _ _, .nil, h => by simp [Tr.d] at h
  | .node l a r, .node l' a' r', h => by
    simp only [Tr.d, D.tup.injEq, List.cons.injEq, and_true] at h
    rw [Tr.d_inj h.1, chr_inj h.2.1, Tr.d_inj h.2.2]
def Tr.isNil : Tr → Bool
  | .nil => true
  | .node _ _ _ => false
@[simp] theorem isNon_d (t : Tr) : isNon t.d = t.isNil := by cases t <;> rfl
theorem isNon_non : isNon .non = true := rfl
theorem isNon_tup {ws : List D} : isNon (.tup ws) = false := rfl
theorem isNon_lst {ws : List D} : isNon (.lst ws) = false := rfl
theorem isNon_str {x : Str} : isNon (.str x) = false := rfl
theorem isNon_int {i : Int} : isNon (.int i) = false := rfl
theorem isNon_bl {b : Bool} : isNon (.bl b) = false := rfl
theorem isNon_ref {a : Addr} : isNon (.ref a) = false := rfl
theorem isNon_dic {ks : List Key} {ws : List D} : isNon (.dic ks ws) = false := rfl
theorem isNon_ty {n : String} : isNon (.ty n) = false := rfl
theorem Tr.isNil_iff {t : Tr} : t.isNil = true ↔ t = .nil := by cases t <;> simp [Tr.isNil]
/-- a def of one tree, of depth below n -/
def spT (g : Tr → D) (n : Nat) : SpD := fun ws s R _ => ∃ t : Tr, ws = [t.d] ∧ t.depth < n ∧ R (g t) s
theorem spT_iff {g : Tr → D} {n : Nat} {t : Tr} {s : Sg} {R : KD} {E : XD} : spT g n [t.d] s R E ↔ t.depth < n ∧ R (g t) s := by
  constructor
  · rintro ⟨u, e, h⟩
    simp only [List.cons.injEq, and_true] at e
    rw [Tr.d_inj e]
    exact h
  · exact fun h => ⟨t, rfl, h⟩
theorem spT_X {g : Tr → D} {n : Nat} : ∀ ws s R E, spT g n ws s R E → spT g n ws s R X0 := fun ws s R E h => h
theorem df_false {P : Program} {w : World} {K : PySem.W.Frag} {mg : Str → Option Value} {base : Heap} {k : Nat} {f : Addr} {fd : FuncData} {x qual : Str} {params : Arguments} {body : List Stmt} {scope : Scope} {kws : List (Str × V)} {ps : List Str} {sp : SpD}
    (F : FunD K x qual params body scope [] kws f fd) (hm : mg x = some (.ref f)) (hb : Binds K fd ps []) (no : ∀ ws s R E, ¬ sp ws s R E) : Df P w K mg base CX0 k x ps sp :=
  ⟨f, fd, hm, F.kp, hb, ⟨fun vs H Q E ⟨ws, s, R, E', _, _, h, _⟩ => (no _ _ _ _ h).elim, fun A outer s H args us vs Q E _ _ _ _ _ ⟨ws, s', R, E', _, _, h, _⟩ => (no _ _ _ _ h).elim⟩⟩
end Dz
namespace Dz
open PySem PySem.Spec PyProof.Rows L2
theorem Sg.put_mk {M : Mm} {n : Nat} {pv : List Addr} {a : Addr} {o : MO} : (Sg.mk M n pv).put a o = Sg.mk (M.put a o) n pv := rfl
theorem Sg.del_mk {M : Mm} {n : Nat} {pv : List Addr} {a : Addr} : (Sg.mk M n pv).del a = Sg.mk (M.del a) n pv := rfl
theorem sg_n (s : Sg) : ({ s with n := s.n } : Sg) = s := rfl
theorem cmul_l {i j : Int} (h : 0 ≤ i) (h2 : i < 2 ^ 64) : CMul i j := .inl ⟨by omega, h2⟩
theorem cmul_r {i j : Int} (h : 0 ≤ j) (h2 : j < 2 ^ 64) : CMul i j := .inr ⟨by omega, h2⟩
theorem cmul_mod {i j k : Int} (h : 0 < k) (h2 : k ≤ 2 ^ 64) : CMul (i % k) j := .inl ⟨by have := Int.emod_nonneg i (show k ≠ 0 by omega); omega, by have := Int.emod_lt_of_pos i h; omega⟩
theorem atI_mod {xs : List Int} {c : Int} (h : 0 < xs.length) : ∃ x : Int, L2.atI (xs.map D.int) (c % (xs.length : Int)) = some (.int x) ∧ (c % (xs.length : Int)).toNat < xs.length ∧ x ∈ xs ∧ ixN xs.length (c % (xs.length : Int)) = some (c % (xs.length : Int)).toNat := by
  have h1 := Int.emod_nonneg c (show (xs.length : Int) ≠ 0 by omega)
  have h2 := Int.emod_lt_of_pos c (show (0 : Int) < xs.length by omega)
  have h3 : (c % (xs.length : Int)).toNat < xs.length := by omega
  have h4 : ixN xs.length (c % (xs.length : Int)) = some (c % (xs.length : Int)).toNat := by
    unfold ixN
    rw [if_pos h1, if_pos h2]
  refine ⟨xs[(c % (xs.length : Int)).toNat], ?_, h3, List.getElem_mem _, h4⟩
  unfold L2.atI
  rw [List.length_map, h4]
  simp [h3]
theorem map_set_int (xs : List Int) (k : Nat) (v : Int) : (xs.map D.int).set k (D.int v) = (xs.set k v).map D.int := by
  rw [List.map_set]
/-- the deck of draws -/
def DkI (n : Nat) (st : Bx) : Prop := ∃ (cells rests : List Int) (c : Int), st = [.inr cells, .inr rests, .inl c] ∧ cells.length = rests.length ∧ 0 < cells.length ∧ cells.length ≤ 1000 ∧ 0 ≤ c ∧ c + n ≤ 1000000000000
def Dk (s : Sg) (p : Addr) : Prop := s.M p = some (.box DkI)
def spend (s : Sg) (k : Nat) : Sg := { s with n := s.n - k }
theorem spend_M {s : Sg} {k : Nat} : (spend s k).M = s.M := rfl
theorem spend_pv {s : Sg} {k : Nat} : (spend s k).pv = s.pv := rfl
theorem spend_n {s : Sg} {k : Nat} : (spend s k).n = s.n - k := rfl
theorem spend_spend {s : Sg} {j k : Nat} : spend (spend s j) k = spend s (j + k) := by
  unfold spend
  simp only [Nat.sub_sub]
theorem spend_zero {s : Sg} : spend s 0 = s := rfl
theorem spend_less {s : Sg} {k : Nat} : Less s (spend s k) := ⟨fun _ _ h => h, Nat.sub_le _ _, rfl⟩
theorem spend_put {s : Sg} {k : Nat} {p : Addr} {o : MO} : spend (s.put p o) k = (spend s k).put p o := rfl
theorem spend_del {s : Sg} {k : Nat} {p : Addr} : spend (s.del p) k = (spend s k).del p := rfl
theorem Dk.spend {s : Sg} {p : Addr} {k : Nat} (h : Dk s p) : Dk (spend s k) p := h
/-- more may be spent than was -/
theorem Lw.more {R : KD} {w : D} {s : Sg} {j k : Nat} (h : j ≤ k) (q : R w (spend s k)) : Lw R w (spend s j) := ⟨spend s k, Less.clo ⟨fun _ _ e => e, by show s.n - k ≤ s.n - j; omega, rfl⟩, q⟩
theorem Lw.less {R : KD} {w : D} {s s' : Sg} (l : Less s s') (q : R w s') : Lw R w s := ⟨_, l.clo, q⟩
def spNext : SpD := fun ws s R _ => ∃ (p : Addr) (m : Int), ws = [.ref p, .int m] ∧ Dk s p ∧ 0 < m ∧ m < 1000000 ∧ 1 ≤ s.n ∧ ∀ r : Int, 0 ≤ r → r < m → R (.int r) (spend s 1)
theorem spNext_iff {p : Addr} {m : Int} {s : Sg} {R : KD} {E : XD} : spNext [.ref p, .int m] s R E ↔ Dk s p ∧ 0 < m ∧ m < 1000000 ∧ 1 ≤ s.n ∧ ∀ r : Int, 0 ≤ r → r < m → R (.int r) (spend s 1) := by
  constructor
  · rintro ⟨q, m', e, h⟩
    simp only [List.cons.injEq, D.ref.injEq, D.int.injEq, and_true] at e
    rw [e.1, e.2]
    exact h
  · exact fun h => ⟨p, m, rfl, h⟩
theorem next_fin {M M' : Mm} {n k : Nat} {p a b : Addr} {cells rs rests : List Int} {c r m : Int} {R : KD} (hb : M p = some (.box DkI)) (hn : 1 ≤ n) (hk : n ≤ k) (hl : cells.length = rests.length) (hl0 : 0 < cells.length) (hl1 : cells.length ≤ 1000) (hc0 : 0 ≤ c) (hc1 : c + k ≤ 1000000000000)
    (e1 : a ≠ b) (np1 : p ≠ a) (np2 : p ≠ b) (hv : ∀ q ∈ [a, b], M q = none) (one : ∀ x y I J, M x = some (.box I) → M y = some (.box J) → x = y) (hrs : rs.length = rests.length)
    (m1 : M' p = some (.lst [.ref a, .ref b, .int (c + 1)])) (m2 : M' a = some (.lst (cells.map D.int))) (m3 : M' b = some (.lst (rs.map D.int))) (m4 : ∀ q, q ≠ p → q ≠ a → q ≠ b → M' q = M q)
    (hR : ∀ r : Int, 0 ≤ r → r < m → R (.int r) (spend ⟨M, n, [a, b]⟩ 1)) (h0 : 0 ≤ r) (h1 : r < m) : Lw R (.int r) ⟨M', n, []⟩ := by
  refine ⟨_, ?_, hR r h0 h1⟩
  refine box_close (st := [.inr cells, .inr rs, .inl (c + 1)]) (k := n - 1) ⟨cells, rs, c + 1, rfl, by omega, hl0, hl1, by omega, by omega⟩ (Nat.le_refl _) m1 ⟨m2, m3, rfl⟩ ?_ ?_ rfl hb (fun q hq => hv q hq) (fun q o hq hm => ⟨?_, fun J e => ?_⟩)
  · simp [spend, e1]
  · simp [spend, np1, np2]
  · have nqa : q ≠ a := fun e => by subst e; rw [show (spend ⟨M, n, [q, b]⟩ 1).M q = M q from rfl, hv q (by simp)] at hm; cases hm
    have nqb : q ≠ b := fun e => by subst e; rw [show (spend ⟨M, n, [a, q]⟩ 1).M q = M q from rfl, hv q (by simp)] at hm; cases hm
    rw [← hm]; exact m4 q hq nqa nqb
  · subst e
    exact hq (one q p J DkI hm hb)
end Dz
namespace Dz
open PySem PySem.Spec PyProof.Rows L2
section
variable {w : D} {ws : List D} {g : DG} {tt : DT} {te : DE} {vs : List Nat} {env : Ev} {R : List D → Sg → Prop}
/-- a comprehension that leaves the state alone -/
theorem lc_pure {s : Sg} (f : D → Option D) : ∀ {l acc : List D}, asI s w = some ws → (∀ x ∈ l, ∀ (k : KD) (B : Sg → Prop), (match f x with | some y => k y s | none => B s) → g x (wipeD env vs) s fun env2 s2 => tt env2 s2 fun b s3 => if b = true then te env2 s3 k else B s3) → acc.length + l.length ≤ 1000000 → R (acc ++ l.filterMap f) s → dLcL w ws g tt te vs env R l acc s
  | [], acc, h, st, hl, hR => ⟨h, by simpa using hR⟩
  | x :: l, acc, h, st, hl, hR => by
    refine ⟨h, st x List.mem_cons_self (fun y s4 => acc.length < 1000000 ∧ dLcL w ws g tt te vs env R l (acc ++ [y]) s4) _ ?_⟩
    rw [List.length_cons] at hl
    cases e : f x with
    | none =>
      rw [List.filterMap_cons_none e] at hR
      exact lc_pure f h (fun y hy => st y (List.mem_cons_of_mem _ hy)) (by omega) hR
    | some y =>
      rw [List.filterMap_cons_some e] at hR
      exact ⟨by omega, lc_pure f h (fun y hy => st y (List.mem_cons_of_mem _ hy)) (by rw [List.length_append, List.length_cons, List.length_nil]; omega) (by rw [List.append_assoc]; exact hR)⟩
/-- where every part is kept -/
theorem lc_map {s : Sg} (f : D → D) {l acc : List D} (h : asI s w = some ws) (st : ∀ x ∈ l, ∀ (k : KD) (B : Sg → Prop), k (f x) s → g x (wipeD env vs) s fun env2 s2 => tt env2 s2 fun b s3 => if b = true then te env2 s3 k else B s3) (hl : acc.length + l.length ≤ 1000000) (hR : R (acc ++ l.map f) s) : dLcL w ws g tt te vs env R l acc s :=
  lc_pure (fun x => some (f x)) h (fun x hx k B q => st x hx k B q) hl (by rw [show (fun x => some (f x)) = some ∘ f from rfl, List.filterMap_eq_map]; exact hR)
/-- where each part takes c draws -/
theorem lc_draw {s : Sg} (c : Nat) (P : D → Prop) : ∀ {l acc : List D} {j : Nat}, asI s w = some ws → (∀ t : Nat, asI (spend s t) w = asI s w) → (∀ x ∈ l, ∀ (k : KD) (B : Sg → Prop) (t : Nat), t + c ≤ j + c * l.length → (∀ y, P y → k y (spend s (t + c))) → g x (wipeD env vs) (spend s t) fun env2 s2 => tt env2 s2 fun b s3 => if b = true then te env2 s3 k else B s3) → acc.length + l.length ≤ 1000000 → (∀ ys : List D, ys.length = l.length → (∀ y ∈ ys, P y) → R (acc ++ ys) (spend s (j + c * l.length))) → dLcL w ws g tt te vs env R l acc (spend s j)
  | [], acc, j, h, hs, st, hl, hR => ⟨(hs j).trans h, by simpa using hR [] rfl (fun _ h => nomatch h)⟩
  | x :: l, acc, j, h, hs, st, hl, hR => by
    rw [List.length_cons] at hl
    have e : j + c * (x :: l).length = (j + c) + c * l.length := by rw [List.length_cons, Nat.mul_add]; omega
    refine ⟨(hs j).trans h, st x List.mem_cons_self (fun y s4 => acc.length < 1000000 ∧ dLcL w ws g tt te vs env R l (acc ++ [y]) s4) _ j (by rw [e]; omega) fun y hy => ⟨by omega, ?_⟩⟩
    refine lc_draw c P h hs (fun z hz k B t ht q => st z (List.mem_cons_of_mem _ hz) k B t (by rw [e]; exact ht) q) (by rw [List.length_append, List.length_cons, List.length_nil]; omega) fun ys hys hp => ?_
    rw [← e, List.append_assoc]
    exact hR (y :: ys) (by rw [List.length_cons, List.length_cons, hys]) fun z hz => by
      rcases List.mem_cons.mp hz with rfl | hz
      · exact hy
      · exact hp z hz
end
theorem rg_len {lo : Int} {n : Nat} : (rg lo n).length = n := by simp [rg]
theorem rg_mem {lo : Int} {n : Nat} {x : D} (h : x ∈ rg lo n) : ∃ k : Nat, k < n ∧ x = .int (lo + k) := by
  unfold rg at h
  obtain ⟨k, hk, rfl⟩ := List.mem_map.mp h
  exact ⟨k, by simpa using hk, rfl⟩
theorem asI_tup {s : Sg} {ws : List D} : asI s (.tup ws) = some ws := rfl
/-! places and cuts -/
theorem atI_nat {α : Type} {xs : List α} {i : Int} (h : 0 ≤ i) (h2 : i < xs.length) : L2.atI xs i = xs[i.toNat]? := by
  unfold L2.atI ixN
  rw [if_pos h, if_pos h2]
  rfl
theorem atI_map {α β : Type} {f : α → β} {xs : List α} {i : Int} (h : 0 ≤ i) (h2 : i < xs.length) : ∃ x, xs[i.toNat]? = some x ∧ x ∈ xs ∧ L2.atI (xs.map f) i = some (f x) := by
  have h3 : i.toNat < xs.length := by omega
  refine ⟨xs[i.toNat], by simp [h3], List.getElem_mem _, ?_⟩
  rw [atI_nat h (by rw [List.length_map]; exact h2), List.getElem?_map]
  simp [h3]
theorem ixN_nat {n : Nat} {i : Int} (h : 0 ≤ i) (h2 : i < n) : ixN n i = some i.toNat := by
  unfold ixN
  rw [if_pos h, if_pos h2]
theorem cut_to {xs : List D} {i : Int} (h : 0 ≤ i) : cutD xs none (some i) = xs.take i.toNat := by
  unfold cutD
  rw [show HT.sIx xs.length 0 none = 0 from rfl, List.drop_zero, Nat.sub_zero]
  obtain ⟨k, rfl⟩ := Int.eq_ofNat_of_zero_le h
  rw [HT.sIx_nat]
  simp only [Int.toNat_natCast]
  rw [Nat.min_def]
  split
  · rfl
  · rw [List.take_of_length_le (Nat.le_refl _), List.take_of_length_le (by omega)]
theorem cut_from {xs : List D} {i : Int} (h : 0 ≤ i) : cutD xs (some i) none = xs.drop i.toNat := by
  unfold cutD
  rw [show HT.sIx xs.length xs.length none = xs.length from rfl]
  obtain ⟨k, rfl⟩ := Int.eq_ofNat_of_zero_le h
  rw [HT.sIx_nat]
  simp only [Int.toNat_natCast]
  rw [Nat.min_def]
  split
  · rw [List.take_of_length_le (by rw [List.length_drop]; omega)]
  · rw [List.drop_of_length_le (Nat.le_refl _), List.drop_of_length_le (by omega)]
    simp
theorem map_erase {α β : Type} (f : α → β) : ∀ (xs : List α) (i : Nat), (xs.map f).eraseIdx i = (xs.eraseIdx i).map f
  | [], i => rfl
  | x :: xs, 0 => rfl
  | x :: xs, i + 1 => by
    show f x :: (xs.map f).eraseIdx i = f x :: (xs.eraseIdx i).map f
    rw [map_erase f xs i]
/-- what was known still is; at most j draws were made -/
structure Ov (s s' : Sg) (j : Nat) : Prop where
  m : ∀ a o, s.M a = some o → s'.M a = some o
  n : s.n ≤ s'.n + j
  v : s'.pv = s.pv
theorem Ov.refl (s : Sg) : Ov s s 0 := ⟨fun _ _ h => h, Nat.le_refl _, rfl⟩
theorem Ov.put {s s' : Sg} {j : Nat} {q : Addr} {o : MO} (h : Ov s s' j) (hq : s.M q = none) : Ov s (s'.put q o) j :=
  ⟨fun a u e => (Mm.put_ne fun z => by subst z; rw [hq] at e; cases e).trans (h.m a u e), h.n, h.v⟩
theorem Ov.del {s s' : Sg} {j : Nat} {q : Addr} (h : Ov s s' j) (hq : s.M q = none) : Ov s (s'.del q) j :=
  ⟨fun a u e => (Mm.del_ne fun z => by subst z; rw [hq] at e; cases e).trans (h.m a u e), h.n, h.v⟩
theorem Ov.spend {s s' : Sg} {j k : Nat} (h : Ov s s' j) : Ov s (spend s' k) (j + k) := ⟨h.m, by have := h.n; show s.n ≤ s'.n - k + (j + k); omega, h.v⟩
theorem Ov.none {s s' : Sg} {j : Nat} {q : Addr} (h : Ov s s' j) (hq : s'.M q = none) : s.M q = none := by
  cases e : s.M q with
  | none => rfl
  | some o => rw [h.m q o e] at hq; cases hq
theorem Ov.dk {s s' : Sg} {j : Nat} {p : Addr} (h : Ov s s' j) (hp : Dk s p) : Dk s' p := h.m _ _ hp
theorem Ov.less {s s' : Sg} {j k : Nat} (h : Ov s s' j) (hk : j ≤ k) : Less s' (Dz.spend s k) := ⟨h.m, by have := h.n; show s.n - k ≤ s'.n; omega, h.v.symm⟩
theorem Ov.lw {s s' : Sg} {j k : Nat} {R : KD} {w : D} (h : Ov s s' j) (hk : j ≤ k) (q : R w (Dz.spend s k)) : Lw R w s' := ⟨_, (h.less hk).clo, q⟩
theorem Ov.lw0 {s s' : Sg} {R : KD} {w : D} (h : Ov s s' 0) (q : R w s) : Lw R w s' := h.lw (Nat.le_refl _) q
theorem Ov.mono {s s' : Sg} {j k : Nat} (h : Ov s s' j) (hk : j ≤ k) : Ov s s' k := ⟨h.m, by have := h.n; omega, h.v⟩
theorem Ov.trans {s s' s'' : Sg} {j k : Nat} (h : Ov s s' j) (g : Ov s' s'' k) : Ov s s'' (j + k) := ⟨fun a o e => g.m a o (h.m a o e), by have := h.n; have := g.n; omega, g.v.trans h.v⟩
theorem Dk.ne {s : Sg} {p q : Addr} {ws : List D} (h : Dk s p) (g : s.M q = some (.lst ws)) : p ≠ q := fun z => by subst z; rw [show s.M p = _ from h] at g; cases g
theorem Dk.neN {s : Sg} {p q : Addr} (h : Dk s p) (g : s.M q = none) : p ≠ q := fun z => by subst z; rw [show s.M p = _ from h] at g; cases g
theorem Dk.put {s : Sg} {p q : Addr} {o : MO} (h : Dk s p) (g : p ≠ q) : Dk (s.put q o) p := (Mm.put_ne g).trans h
end Dz
namespace Dz
open PySem PySem.Spec PyProof.Rows L2

/-! ### data of a known depth -/
mutual
def fit : D → Nat → Prop
  | .non, _ => True
  | .bl _, _ => True
  | .int _, _ => True
  | .str x, _ => PyData.strOk x = true
  | .tup ws, n => 0 < n ∧ ws.length ≤ 100000 ∧ fits ws (n - 1)
  | .lst ws, n => 0 < n ∧ ws.length ≤ 100000 ∧ fits ws (n - 1)
  | .dic _ _, _ => False
  | .ref _, _ => False
  | .ty _, _ => False
def fits : List D → Nat → Prop
  | [], _ => True
  | w :: ws, n => fit w n ∧ fits ws n
end
def pyD (w : D) : PyData := (toPy w).getD .none
def pyDs (ws : List D) : List PyData := (toPys ws).getD []
mutual
theorem fit_py : ∀ (w : D) (n : Nat), fit w n → toPy w = some (pyD w) ∧ (pyD w).canLay0 = true ∧ (pyD w).depth ≤ n
  | .non, n, h => ⟨rfl, rfl, Nat.zero_le _⟩
  | .bl _, n, h => ⟨rfl, rfl, Nat.zero_le _⟩
  | .int _, n, h => ⟨rfl, rfl, Nat.zero_le _⟩
  | .str x, n, h => ⟨rfl, h, Nat.zero_le _⟩
  | .tup ws, n, h => by
    have h' : 0 < n ∧ ws.length ≤ 100000 ∧ fits ws (n - 1) := h
    obtain ⟨h0, _, h⟩ := h'
    obtain ⟨e, c, d⟩ := fits_py ws (n - 1) h
    have e2 : toPy (.tup ws) = some (.tuple (pyDs ws)) := by rw [toPy, e]; rfl
    have e3 : pyD (.tup ws) = .tuple (pyDs ws) := by rw [pyD, e2]; rfl
    rw [e3]
    exact ⟨e2, c, by show PyData.depthAll _ + 1 ≤ n; omega⟩
  | .lst ws, n, h => by
    have h' : 0 < n ∧ ws.length ≤ 100000 ∧ fits ws (n - 1) := h
    obtain ⟨h0, _, h⟩ := h'
    obtain ⟨e, c, d⟩ := fits_py ws (n - 1) h
    have e2 : toPy (.lst ws) = some (.list (pyDs ws)) := by rw [toPy, e]; rfl
    have e3 : pyD (.lst ws) = .list (pyDs ws) := by rw [pyD, e2]; rfl
    rw [e3]
    exact ⟨e2, c, by show PyData.depthAll _ + 1 ≤ n; omega⟩
  | .dic _ _, n, h => h.elim
  | .ref _, n, h => h.elim
  | .ty _, n, h => h.elim
theorem fits_py : ∀ (ws : List D) (n : Nat), fits ws n → toPys ws = some (pyDs ws) ∧ PyData.canLayAll0 (pyDs ws) = true ∧ PyData.depthAll (pyDs ws) ≤ n
  | [], n, h => ⟨rfl, rfl, Nat.zero_le _⟩
  | w :: ws, n, h => by
    have h' : fit w n ∧ fits ws n := h
    obtain ⟨h1, h2⟩ := h'
    obtain ⟨e1, c1, d1⟩ := fit_py w n h1
    obtain ⟨e2, c2, d2⟩ := fits_py ws n h2
    have e3 : toPys (w :: ws) = some (pyD w :: pyDs ws) := by rw [toPys, e1, e2]; rfl
    have e4 : pyDs (w :: ws) = pyD w :: pyDs ws := by rw [pyDs, e3]; rfl
    rw [e4]
    refine ⟨e3, ?_, ?_⟩
    · show (PyData.canLay0 _ && PyData.canLayAll0 _) = true
      rw [c1, c2]; rfl
    · show max _ _ ≤ n
      exact Nat.max_le.mpr ⟨d1, d2⟩
end
mutual
theorem fit_mono : ∀ (w : D) (n m : Nat), n ≤ m → fit w n → fit w m
  | .non, n, m, _, h => h
  | .bl _, n, m, _, h => h
  | .int _, n, m, _, h => h
  | .str x, n, m, _, h => h
  | .tup ws, n, m, l, h => by
    have h' : 0 < n ∧ ws.length ≤ 100000 ∧ fits ws (n - 1) := h
    exact ⟨by omega, h'.2.1, fits_mono ws _ _ (by omega) h'.2.2⟩
  | .lst ws, n, m, l, h => by
    have h' : 0 < n ∧ ws.length ≤ 100000 ∧ fits ws (n - 1) := h
    exact ⟨by omega, h'.2.1, fits_mono ws _ _ (by omega) h'.2.2⟩
  | .dic _ _, n, m, _, h => h
  | .ref _, n, m, _, h => h
  | .ty _, n, m, _, h => h
theorem fits_mono : ∀ (ws : List D) (n m : Nat), n ≤ m → fits ws n → fits ws m
  | [], n, m, _, h => h
  | w :: ws, n, m, l, h => by
    have h' : fit w n ∧ fits ws n := h
    exact ⟨fit_mono w n m l h'.1, fits_mono ws n m l h'.2⟩
end
theorem fits_of {n : Nat} : ∀ {ws : List D}, (∀ w ∈ ws, fit w n) → fits ws n
  | [], _ => trivial
  | w :: ws, h => ⟨h w List.mem_cons_self, fits_of fun u hu => h u (List.mem_cons_of_mem _ hu)⟩
theorem fits_mem {n : Nat} : ∀ {ws : List D} {w : D}, fits ws n → w ∈ ws → fit w n
  | [], w, _, h => nomatch h
  | u :: ws, w, q, h => by
    have q' : fit u n ∧ fits ws n := q
    rcases List.mem_cons.mp h with rfl | h
    · exact q'.1
    · exact fits_mem q'.2 h
theorem pyOf_fit {s : Sg} {w : D} {n : Nat} (h : fit w n) : pyOf s w = some (pyD w) := by
  have := (fit_py w n h).1
  cases w <;> first | exact this | exact h.elim
theorem shaped_fit {w : D} {n : Nat} (h : fit w n) (hn : n ≤ 64) : SeqAt.shaped (pyD w) = true := by
  obtain ⟨_, c, d⟩ := fit_py w n h
  unfold SeqAt.shaped
  rw [c, Bool.true_and, decide_eq_true_eq]
  omega
/-- == of a thing with itself -/
theorem rEqv_refl {w : D} {n : Nat} {g : Bool → Bool} {s : Sg} {R : KD} (h : fit w n) (hn : n ≤ 64) (q : R (.bl (g true)) s) : rEqv g w w s R := by
  have e := SeqAt.eqv_refl (pyD w) (fit_py w n h).2.1
  have c := shaped_fit h hn
  have p := pyOf_fit (s := s) h
  unfold rEqv
  split
  · simpa using q
  · simpa using q
  · simpa using q
  · rw [p]
    exact ⟨c, c, by rw [e]; exact q⟩
/-! ### trees as data -/
theorem strOk_chr {c : Nat} (h : c < 1114112) : PyData.strOk ⟨#[c]⟩ = true := by simp [PyData.strOk, h]
theorem fit_tr : ∀ {t : Tr} {n : Nat}, t.all (· < 1114112) → t.depth ≤ n → fit t.d n
  | .nil, n, _, _ => trivial
  | .node l a r, n, h, hd => by
    simp only [Tr.depth] at hd
    refine ⟨by omega, by simp, fit_tr h.1 (by omega), strOk_chr h.2.1, fit_tr h.2.2 (by omega), trivial⟩
theorem Tr.all_mono {p q : Nat → Prop} (h : ∀ c, p c → q c) : ∀ {t : Tr}, t.all p → t.all q
  | .nil, _ => trivial
  | .node l a r, ⟨h1, h2, h3⟩ => ⟨all_mono h h1, h _ h2, all_mono h h3⟩
theorem Tr.all_mir {p : Nat → Prop} : ∀ {t : Tr}, t.all p → t.mir.all p
  | .nil, _ => trivial
  | .node l a r, ⟨h1, h2, h3⟩ => ⟨all_mir h3, h2, all_mir h1⟩
theorem Tr.depth_mir : ∀ t : Tr, t.mir.depth = t.depth
  | .nil => rfl
  | .node l a r => by simp only [Tr.mir, Tr.depth, depth_mir l, depth_mir r]; omega
def pyT : Tr → PyData
  | .nil => .none
  | .node l a r => .tuple [pyT l, .str ⟨#[a]⟩, pyT r]
theorem toPy_tr : ∀ t : Tr, toPy t.d = some (pyT t)
  | .nil => rfl
  | .node l a r => by
    show toPy (.tup [l.d, .str ⟨#[a]⟩, r.d]) = _
    simp only [toPy, toPys, toPy_tr l, toPy_tr r, Option.map_some, Option.bind_some, pyT]
theorem pyD_tr (t : Tr) : pyD t.d = pyT t := by rw [pyD, toPy_tr]; rfl
theorem pyT_show : ∀ t : Tr, (pyT t).showable = true
  | .nil => rfl
  | .node l a r => by
    show ((pyT l).showable && (true && ((pyT r).showable && true))) = true
    rw [pyT_show l, pyT_show r]; rfl
theorem pyT_short : ∀ t : Tr, t.all (· < 1114112) → (pyT t).leavesShort 13 = true
  | .nil, _ => rfl
  | .node l a r, h => by
    show ((pyT l).leavesShort 13 && (PyData.leavesShort 13 (.str ⟨#[a]⟩) && ((pyT r).leavesShort 13 && true))) = true
    rw [pyT_short l h.1, pyT_short r h.2.2]
    have : a < 16 ^ 8 := by have := h.2.1; omega
    simp [PyData.leavesShort, this]
theorem pyT_weight : ∀ t : Tr, (pyT t).weight = 4 * t.size
  | .nil => rfl
  | .node l a r => by
    show (pyT l).weight + 1 + (1 + 1 + ((pyT r).weight + 1 + 0)) = _
    rw [pyT_weight l, pyT_weight r]
    simp only [Tr.size]; omega
theorem repr_tr {t : Tr} {s : Sg} {R : KD} (h0 : 0 < t.size) (h1 : t.size ≤ 10000) (hd : t.depth ≤ 60) (h : t.all (· < 1114112)) (q : R (.str (pyT t).shown) s) : rRepr [t.d] s R := by
  have f := fit_tr (n := 60) h hd
  have p := pyOf_fit (s := s) f
  have d := (fit_py _ _ f).2.2
  have l := PyData.shown_le 13 (by decide) (pyT t) (pyT_short t h)
  rw [pyT_weight] at l
  rw [pyD_tr] at p d
  unfold rRepr
  dsimp only
  rw [p]
  refine ⟨?_, pyT_show t, d, by omega, q⟩
  cases t with
  | nil => cases h0
  | node l a r => rfl
theorem toPys_trs : ∀ h : List Tr, toPys (h.map Tr.d) = some (h.map pyT)
  | [] => rfl
  | t :: h => by simp only [List.map_cons, toPys, toPy_tr, toPys_trs h, Option.bind_some, Option.map_some]
theorem eqv_nilr (xs : List PyData) : PyData.eqv (.list xs) (.list []) = xs.isEmpty := by
  cases xs <;> simp [PyData.eqv, PyData.eqvAll]
theorem shaped_of {w : D} {d : PyData} {n : Nat} (h : fit w n) (hn : n ≤ 64) (e : toPy w = some d) : SeqAt.shaped d = true := by
  have := shaped_fit h hn
  rw [pyD, e] at this
  exact this
theorem shaped_nil : SeqAt.shaped (.list []) = true := rfl
/-! ### loops by what holds at each turn -/
theorem for_inv {w : D} {ws : List D} {g : DG} {tb : DS} {DD : DEnds} (I : List D → Ev → Sg → Prop) (h0 : ∀ env s, I [] env s → asI s w = some ws ∧ DD.nx env s)
    (h1 : ∀ x r env s (N : Ev → Sg → Prop), I (x :: r) env s → (∀ env' s', I r env' s' → N env' s') → asI s w = some ws ∧ g x env s fun env' s' => tb { DD with nx := N, ct := N, bk := DD.nx } env' s') :
    ∀ {l : List D} {env : Ev} {s : Sg}, I l env s → dForL w ws g tb DD l env s
  | [], env, s, h => h0 env s h
  | x :: r, env, s, h => h1 x r env s (dForL w ws g tb DD r) h fun env' s' h' => for_inv I h0 h1 h'
theorem while_inv {c : DT} {tb : DS} {DD : DEnds} (I : Nat → Ev → Sg → Prop)
    (h1 : ∀ n env s (N : Ev → Sg → Prop), I n env s → (∀ m env' s', n = m + 1 → I m env' s' → N env' s') → c env s fun b s1 => if b = true then tb { DD with nx := N, ct := N, bk := DD.nx } env s1 else DD.nx env s1) :
    ∀ {n : Nat} {env : Ev} {s : Sg}, I n env s → dWhileN c tb DD (n + 1) env s
  | 0, env, s, h => h1 0 env s _ h fun m _ _ e => nomatch e
  | n + 1, env, s, h => h1 (n + 1) env s (dWhileN c tb DD (n + 1)) h fun m env' s' e h' => by
    cases e
    exact while_inv I h1 h'
theorem while_of {c : DT} {tb : DS} {DD : DEnds} {env : Ev} {s : Sg} (I : Nat → Ev → Sg → Prop) (n : Nat) (h : I n env s)
    (h1 : ∀ n env s (N : Ev → Sg → Prop), I n env s → (∀ m env' s', n = m + 1 → I m env' s' → N env' s') → c env s fun b s1 => if b = true then tb { DD with nx := N, ct := N, bk := DD.nx } env s1 else DD.nx env s1) : dWhile c tb DD env s :=
  ⟨n + 1, while_inv I h1 h⟩
end Dz
namespace Dz
open PySem PySem.Spec PyProof.Rows L2
theorem dfG_of {P : Program} {w : World} {K : PySem.W.Frag} {mg : Str → Option Value} {base : Heap} {k : Nat} {f : Addr} {fd : FuncData} {x qual : Str} {params : Arguments} {body : List Stmt} {scope : Scope} {kws : List (Str × V)} {N ps : List Str} {sp : SpD} {tb : DS}
    (F : FunD K x qual params body scope [] kws f fd) (S : FnScope N ps scope)
    (body_ok : ∀ (cdv : Value) (A : Around) (outer : List Env) (s : Shared) (H : Hp) (E : XK), Room k (A.deeper (envOfC qual scope s.heap.objs.size f cdv)) → (A.deeper (envOfC qual scope s.heap.objs.size f cdv)).guards = some [] → PDSs (cxOf CX0 P w K mg base N qual scope f cdv A outer s H E).nox body tb)
    (sem : ∀ ws s R, sp ws s R X0 → ws.length = ps.length ∧ ∀ K H, MRep K H s → ∃ s1, MRep K H s1 ∧ Stp H s H s1 ∧ tb { nx := fun _ s' => Lw R .non s', rt := Lw R } (startD N ws) s1)
    (noX : ∀ ws s R E, sp ws s R E → sp ws s R X0) : FnG P w K mg base CX0 (k + 1) f fd ps (liftSp K sp) := by
  refine fnG_of F S (fun vs H Q E ⟨ws, s, R, E', h1, h2, h3, h4, h5⟩ => by rw [← h1.len]; exact (sem ws s R (noX _ _ _ _ h3)).1) fun cdv A outer s0 H vs Q E hr hg ⟨ws, s, R, E', h1, h2, h3, h4, h5⟩ => ?_
  obtain ⟨s1, m1, e1, q⟩ := (sem ws s R (noX _ _ _ _ h3)).2 K H h2
  have h6 := (h4.ext e1).lw
  exact ⟨_, (body_ok cdv A outer s0 H E hr hg).nox, startD N ws, s1, _, renv_start h1, m1, q, ⟨fun env s' σ H' q e m r => h6 .non s' _ H' q e m rfl, h6, fun _ _ _ _ q => q.elim, fun _ _ _ _ q => q.elim⟩⟩
end Dz
namespace Dz
open PySem PySem.Spec PyProof.Rows L2
section
variable {X : Cx}
/-! ### f-strings -/
def dFmt (t : DE) : DE := fun env s R => t env s fun w s1 => match w with
  | .str y => y.length ≤ 1000000 ∧ R (.str y) s1
  | .int i => i.natAbs.log2 < 1920 ∧ R (.str (toString i)) s1
  | _ => False
theorem pd_fmt {e : Expr} {t : DE} {pos : Pos} (h : PD X e t) : PD X (.FormattedValue e (-1) none pos) (dFmt t) :=
  pe_imp (pe_fmt h) fun σ H Q ⟨env, s, R, h1, h2, h3, h4⟩ => ⟨env, s, _, h1, h2, h3, fun w s1 v H1 q e1 m1 r1 => by
    cases w with
    | str y => exact .inl ⟨y, r1, Nat.le_trans q.1 mil, h4 _ _ _ _ q.2 e1 m1 rfl⟩
    | int i => exact .inr ⟨i, r1, q.1, h4 _ _ _ _ q.2 e1 m1 rfl⟩
    | _ => exact q.elim⟩
def dJs : List DE → Str → Ev → Sg → (Str → Sg → Prop) → Prop
  | [], acc, _, s, R => R acc s
  | t :: ts, acc, env, s, R => t env s fun w s1 => match w with
    | .str y => acc.length + y.length ≤ 1000000 ∧ dJs ts (acc ++ y) env s1 R
    | _ => False
theorem str_app_len (a b : Str) : (a ++ b).length = a.length + b.length := by
  show (a.cps ++ b.cps).size = a.cps.size + b.cps.size
  exact Array.size_append
theorem tJs_of {K : PySem.W.Frag} {σ : L2.St} {env : Ev} {H0 : Hp} {s0 : Sg} {R : Str → Sg → Prop} {Q : Str → Hp → Prop} (hp : ∀ z s H', R z s → Stp H0 s0 H' s → MRep K H' s → Q z H') :
    ∀ (ts : List DE) (acc : Str) (H : Hp) (s : Sg), REnv K H env σ → MRep K H s → Stp H0 s0 H s → dJs ts acc env s R → tJs (ts.map (liftE K)) acc σ H Q
  | [], acc, H, s, r, m, e, h => hp acc s H h e m
  | t :: ts, acc, H, s, r, m, e, h => ⟨env, s, _, r, m, h, fun w s1 v H1 q e1 m1 r1 => by
    cases w with
    | str y => exact ⟨y, r1, by rw [str_app_len]; exact Nat.le_trans q.1 mil, tJs_of hp ts (acc ++ y) H1 s1 (r.ext e1.ext) m1 (e.trans e1) q.2⟩
    | _ => exact q.elim⟩
abbrev PDJ (X : Cx) (es : List Expr) (ts : List DE) : Prop := PJ X es (ts.map (liftE X.K))
theorem pdj_nil : PDJ X [] [] := .nil
theorem pdj_cons {e : Expr} {t : DE} {es : List Expr} {ts : List DE} (h : PD X e t) (r : PDJ X es ts) : PDJ X (e :: es) (t :: ts) := .cons h r
def dFJ (ts : List DE) : DE := fun env s R => dJs ts Str.empty env s fun z s1 => R (.str z) s1
theorem pd_joined {v1 v2 : Expr} {rest : List Expr} {ts : List DE} {pos : Pos} (h : PDJ X (v1 :: v2 :: rest) ts) : PD X (.JoinedStr (v1 :: v2 :: rest) pos) (dFJ ts) :=
  pe_imp (pe_joined h) fun σ H Q ⟨env, s, R, h1, h2, h3, h4⟩ => tJs_of (R := fun z s1 => R (.str z) s1) (fun z s' H' q e m => h4 _ _ _ _ q e m rfl) ts Str.empty H s h1 h2 (.refl _ _) h3
end
/-! ### texts as lists of signs -/
def mkS (l : List Nat) : Str := ⟨l.toArray⟩
theorem mkS_app (a b : List Nat) : mkS a ++ mkS b = mkS (a ++ b) := by
  show Str.append (mkS a) (mkS b) = _
  unfold Str.append mkS
  simp
theorem mkS_len (a : List Nat) : (mkS a).length = a.length := by
  show (a.toArray).size = _
  simp
theorem mkS_inj {a b : List Nat} (h : mkS a = mkS b) : a = b := by
  unfold mkS at h
  injection h with h
  have := congrArg Array.toList h
  simpa using this
theorem mkS_iff {a b : List Nat} : mkS a = mkS b ↔ a = b := ⟨mkS_inj, fun h => by rw [h]⟩
theorem mkS_cps (a : List Nat) : (mkS a).cps.toList = a := rfl
theorem mkS_of (x : Str) : x = mkS x.cps.toList := by cases x; rfl
theorem chr_mk (c : Nat) : chr c = .str (mkS [c]) := rfl
theorem empty_mk : Str.empty = mkS [] := rfl
end Dz
namespace Dz
open PySem PySem.Spec PyProof.Rows L2
/-! ### == without unfolding; trees -/
section
variable {g : Bool → Bool} {s : Sg} {R : KD}
theorem rEqv_int {i j : Int} : rEqv g (.int i) (.int j) s R = R (.bl (g (decide (i = j)))) s := rfl
theorem rEqv_str {i j : Str} : rEqv g (.str i) (.str j) s R = R (.bl (g (decide (i = j)))) s := rfl
theorem rEqv_bl {i j : Bool} : rEqv g (.bl i) (.bl j) s R = R (.bl (g (decide (i = j)))) s := rfl
theorem eqv_tr : ∀ t u : Tr, PyData.eqv (pyT t) (pyT u) = true ↔ t = u
  | .nil, .nil => by simp [pyT, PyData.eqv]
  | .nil, .node _ _ _ => by simp [pyT, PyData.eqv]
  | .node _ _ _, .nil => by simp [pyT, PyData.eqv]
  | .node l a r, .node l' a' r' => by
    simp only [pyT, PyData.eqv, PyData.eqvAll, Bool.and_eq_true, eqv_tr l l', eqv_tr r r', Bool.and_true, Tr.node.injEq]
    simp
theorem rEqv_py {w u : D} {n m : Nat} (hw : fit w n) (hu : fit u m) (hn : n ≤ 64) (hm : m ≤ 64) (hne : ∀ i, w ≠ .int i) (hns : ∀ i, w ≠ .str i) (hnb : ∀ i, w ≠ .bl i) (q : R (.bl (g (PyData.eqv (pyD w) (pyD u)))) s) : rEqv g w u s R := by
  unfold rEqv
  split
  · exact absurd rfl (hne _)
  · exact absurd rfl (hns _)
  · exact absurd rfl (hnb _)
  · rw [pyOf_fit hw, pyOf_fit hu]
    exact ⟨shaped_fit hw hn, shaped_fit hu hm, q⟩
theorem rEqv_tr {t u : Tr} (ht : t.all (· < 1114112)) (hu : u.all (· < 1114112)) (hd : t.depth ≤ 64) (hd' : u.depth ≤ 64) : rEqv g t.d u.d s R ↔ R (.bl (g (decide (t = u)))) s := by
  have e : PyData.eqv (pyT t) (pyT u) = decide (t = u) := by
    rw [Bool.eq_iff_iff, eqv_tr, decide_eq_true_eq]
  have f1 := fit_tr ht hd
  have f2 := fit_tr hu hd'
  have p1 := pyOf_fit (s := s) f1
  have p2 := pyOf_fit (s := s) f2
  have c1 := shaped_fit f1 (Nat.le_refl _)
  have c2 := shaped_fit f2 (Nat.le_refl _)
  have key : rEqv g t.d u.d s R = (match pyOf s t.d, pyOf s u.d with | some d, some e => SeqAt.shaped d = true ∧ SeqAt.shaped e = true ∧ R (.bl (g (PyData.eqv d e))) s | _, _ => False) := by
    cases t <;> rfl
  rw [key, p1, p2]
  dsimp only
  rw [c1, c2, pyD_tr, pyD_tr, e]
  simp
end
theorem weight_trs : ∀ ts : List Tr, PyData.weightAll (ts.map pyT) = (ts.map fun t => 4 * t.size + 1).sum
  | [] => rfl
  | t :: ts => by
    show (pyT t).weight + 1 + PyData.weightAll (ts.map pyT) = _
    rw [pyT_weight, weight_trs ts]; rfl
theorem show_trs : ∀ ts : List Tr, PyData.showableAll (ts.map pyT) = true
  | [] => rfl
  | t :: ts => by
    show ((pyT t).showable && PyData.showableAll (ts.map pyT)) = true
    rw [pyT_show, show_trs ts]; rfl
theorem short_trs : ∀ ts : List Tr, (∀ t ∈ ts, t.all (· < 1114112)) → PyData.leavesShortAll 13 (ts.map pyT) = true
  | [], _ => rfl
  | t :: ts, h => by
    show ((pyT t).leavesShort 13 && PyData.leavesShortAll 13 (ts.map pyT)) = true
    rw [pyT_short t (h t List.mem_cons_self), short_trs ts fun u hu => h u (List.mem_cons_of_mem _ hu)]; rfl
theorem sum_le_mul : ∀ {ns : List Nat} {b : Nat}, (∀ n ∈ ns, n ≤ b) → ns.sum ≤ ns.length * b
  | [], b, _ => by simp
  | n :: ns, b, h => by
    have h1 := h n List.mem_cons_self
    have h2 := sum_le_mul (ns := ns) (b := b) fun m hm => h m (List.mem_cons_of_mem _ hm)
    rw [List.sum_cons, List.length_cons, Nat.add_mul]
    omega
theorem repr_trs {ts : List Tr} {s : Sg} {R : KD} (h : ∀ t ∈ ts, t.size ≤ 1000 ∧ t.depth ≤ 59 ∧ t.all (· < 1114112)) (hl : ts.length ≤ 10) (q : R (.str (PyData.list (ts.map pyT)).shown) s) : rRepr [.lst (ts.map Tr.d)] s R := by
  have f : fit (.lst (ts.map Tr.d)) 60 := ⟨by decide, by rw [List.length_map]; omega, fits_of fun w hw => by
    obtain ⟨t, ht, rfl⟩ := List.mem_map.mp hw
    exact fit_tr (h t ht).2.2 (h t ht).2.1⟩
  have e : toPy (.lst (ts.map Tr.d)) = some (.list (ts.map pyT)) := by rw [toPy, toPys_trs]; rfl
  have d := (fit_py _ _ f).2.2
  rw [pyD, e] at d
  have l := PyData.shown_le 13 (by decide) (.list (ts.map pyT)) (short_trs ts fun t ht => (h t ht).2.2)
  have w : PyData.weight (.list (ts.map pyT)) ≤ 40010 := by
    show PyData.weightAll _ ≤ _
    rw [weight_trs]
    have := sum_le_mul (ns := ts.map fun t => 4 * t.size + 1) (b := 4001) fun n hn => by
      obtain ⟨t, ht, rfl⟩ := List.mem_map.mp hn
      have := (h t ht).1
      omega
    rw [List.length_map] at this
    omega
  unfold rRepr
  dsimp only [pyOf]
  rw [e]
  exact ⟨rfl, show_trs ts, d, by omega, q⟩
end Dz
namespace Dz
open PySem PySem.Spec PyProof.Rows L2
section
variable {X : Cx}
/-! ### a new list: xs[::-1] -/
def dRevA (te : DE) : DA := fun env s R => te env s fun x s1 => match asL s1 x with
  | some ws => R ws.reverse s1
  | none => False
theorem nl_rev {e : Expr} {te : DE} {k : Nat} {p1 p2 p3 pos : Pos} (he : PD X e te) : PNL X (.Subscript e (.Slice none none (some (.UnaryOp .USub (.Constant (.int 1) k p1) p2)) p3) pos) (dRevA te) :=
  pe_imp (pe_revL he) fun σ H Q ⟨env, s, R, h1, h2, h3, h4⟩ => by
    refine ⟨env, s, _, h1, h2, h3, fun x s1 v H1 q e1 m1 r1 => ?_⟩
    split at q
    · rename_i ws hw
      obtain ⟨a, vs, rfl, f, g⟩ := asL_sq hw r1 m1
      exact ⟨a, vs, rfl, f, fun p hp => h4 _ _ _ _ q e1 m1 g.reverse p hp⟩
    · exact q.elim
end
/-! ### max and min of two texts -/
section
variable {prog : Program} {w : World} {A : Around} {E : Value → Shared → Prop} {s : Shared}
theorem cmp_gt_str {P : Nat → Value → Prop} (val : Nat → Str) (hval : ∀ i v, P i v → ∃ t, v = .str (val i) t) : CmpOf prog w A .Gt P (fun i j => decide ((val j).cps.toList < (val i).cps.toList)) := fun i j vi vj s Q E hi hj h => by
  obtain ⟨t, rfl⟩ := hval i vi hi
  obtain ⟨u, rfl⟩ := hval j vj hj
  show wpAny (model prog w) A (compareOp .Gt _ _) Q E s
  exact PySem.P.gt_str h
theorem cmp_lt_str {P : Nat → Value → Prop} (val : Nat → Str) (hval : ∀ i v, P i v → ∃ t, v = .str (val i) t) : CmpOf prog w A .Lt P (fun i j => decide ((val i).cps.toList < (val j).cps.toList)) := fun i j vi vj s Q E hi hj h => by
  obtain ⟨t, rfl⟩ := hval i vi hi
  obtain ⟨u, rfl⟩ := hval j vj hj
  show wpAny (model prog w) A (compareOp .Lt _ _) Q E s
  exact lt_str h
def sItems (a b : Str) (t u : Tok) : Array Value := #[.str a t, .str b u]
def sAt (a b : Str) (i : Nat) : Str := if i = 0 then a else b
theorem sItems_at {a b : Str} {t u : Tok} {i : Nat} {v : Value} (h : (sItems a b t u)[i]? = some v) : ∃ t, v = .str (sAt a b i) t := by
  match i with
  | 0 => simp [sItems] at h; exact ⟨t, by rw [← h]; rfl⟩
  | 1 => simp [sItems] at h; exact ⟨u, by rw [← h]; rfl⟩
  | i + 2 => simp [sItems] at h
theorem max_two_strs {a b : Str} {t u : Tok} {Q : Value → Shared → Prop} (hh : A.handled = none)
    (h : ∀ h' tk, (∀ c o, s.heap.get? c = some o → h'.get? c = some o) → Q (if a.cps.toList < b.cps.toList then .str b u else .str a t) { s with heap := h', toks := tk }) :
    wpAny (model prog w) A (call (.builtin "max") [.str a t, .str b u]) Q E s := by
  have hT : (s.heap.push { cls := .type "tuple", data := .seq #[.str a t, .str b u] }).IsTuple s.heap.objs.size (sItems a b t u) := ⟨_, Heap.get?_push_size _ rfl, rfl, 0, by simp [sItems]⟩
  refine call_max_two (wpAny_pyIter_tuple hT ?_)
  have hsz : (s.heap.push { cls := .type "tuple", data := .seq #[.str a t, .str b u] }).objs.size = s.heap.objs.size + 1 := Heap.size_push ..
  refine ⟨_, [_, s.heap.objs.size], [_], _, _, _, _, rfl, Walks.tuple (A := A.in1) hh _ s.heap.objs.size (by rw [hsz]; exact Nat.ne_of_lt (Nat.lt_succ_self _)) (sItems a b t u),
    ⟨⟨_, Heap.get?_push_size _ rfl, rfl, rfl⟩, hT.push _⟩, fun c hc => ?_, by simp [sItems], cmp_gt_str (sAt a b) (fun _ _ => sItems_at), fun v h' tk hP hk => ?_⟩
  · show c < ((s.heap.push _).push _).objs.size
    rw [Heap.size_push, hsz]
    rcases List.mem_cons.mp hc with rfl | hc
    · rw [hsz]; exact Nat.lt_succ_self _
    · rcases List.mem_cons.mp hc with rfl | hc
      · exact Nat.lt_succ_of_lt (Nat.lt_succ_self _)
      · cases hc
  · have old : ∀ c o, s.heap.get? c = some o → h'.get? c = some o := fun c o e => by
      refine hk c o (fun hm => ?_) (Heap.get?_push_of_some _ (Heap.get?_push_of_some _ e))
      rcases List.mem_cons.mp hm with e1 | hm
      · have := Heap.lt_size e; rw [e1, hsz] at this; exact Nat.lt_irrefl _ (Nat.lt_of_succ_lt this)
      · cases hm
    have fin := h h' tk old
    have hP' : (sItems a b t u)[argBest (fun i j => decide ((sAt a b j).cps.toList < (sAt a b i).cps.toList)) 1]? = some v := hP
    by_cases hba : a.cps.toList < b.cps.toList
    · have e : argBest (fun i j => decide ((sAt a b j).cps.toList < (sAt a b i).cps.toList)) 1 = 1 := by simp [argBest, sAt, hba]
      rw [e] at hP'
      rw [if_pos hba] at fin
      have : v = .str b u := by simpa [sItems] using hP'.symm
      rw [this]; exact fin
    · have e : argBest (fun i j => decide ((sAt a b j).cps.toList < (sAt a b i).cps.toList)) 1 = 0 := by simp [argBest, sAt, hba]
      rw [e] at hP'
      rw [if_neg hba] at fin
      have : v = .str a t := by simpa [sItems] using hP'.symm
      rw [this]; exact fin
theorem min_two_strs {a b : Str} {t u : Tok} {Q : Value → Shared → Prop} (hh : A.handled = none)
    (h : ∀ h' tk, (∀ c o, s.heap.get? c = some o → h'.get? c = some o) → Q (if b.cps.toList < a.cps.toList then .str b u else .str a t) { s with heap := h', toks := tk }) :
    wpAny (model prog w) A (call (.builtin "min") [.str a t, .str b u]) Q E s := by
  have hT : (s.heap.push { cls := .type "tuple", data := .seq #[.str a t, .str b u] }).IsTuple s.heap.objs.size (sItems a b t u) := ⟨_, Heap.get?_push_size _ rfl, rfl, 0, by simp [sItems]⟩
  refine call_min_two (wpAny_pyIter_tuple hT ?_)
  have hsz : (s.heap.push { cls := .type "tuple", data := .seq #[.str a t, .str b u] }).objs.size = s.heap.objs.size + 1 := Heap.size_push ..
  refine ⟨_, [_, s.heap.objs.size], [_], _, _, _, _, rfl, Walks.tuple (A := A.in1) hh _ s.heap.objs.size (by rw [hsz]; exact Nat.ne_of_lt (Nat.lt_succ_self _)) (sItems a b t u),
    ⟨⟨_, Heap.get?_push_size _ rfl, rfl, rfl⟩, hT.push _⟩, fun c hc => ?_, by simp [sItems], cmp_lt_str (sAt a b) (fun _ _ => sItems_at), fun v h' tk hP hk => ?_⟩
  · show c < ((s.heap.push _).push _).objs.size
    rw [Heap.size_push, hsz]
    rcases List.mem_cons.mp hc with rfl | hc
    · rw [hsz]; exact Nat.lt_succ_self _
    · rcases List.mem_cons.mp hc with rfl | hc
      · exact Nat.lt_succ_of_lt (Nat.lt_succ_self _)
      · cases hc
  · have old : ∀ c o, s.heap.get? c = some o → h'.get? c = some o := fun c o e => by
      refine hk c o (fun hm => ?_) (Heap.get?_push_of_some _ (Heap.get?_push_of_some _ e))
      rcases List.mem_cons.mp hm with e1 | hm
      · have := Heap.lt_size e; rw [e1, hsz] at this; exact Nat.lt_irrefl _ (Nat.lt_of_succ_lt this)
      · cases hm
    have fin := h h' tk old
    have hP' : (sItems a b t u)[argBest (fun i j => decide ((sAt a b i).cps.toList < (sAt a b j).cps.toList)) 1]? = some v := hP
    by_cases hba : b.cps.toList < a.cps.toList
    · have e : argBest (fun i j => decide ((sAt a b i).cps.toList < (sAt a b j).cps.toList)) 1 = 1 := by simp [argBest, sAt, hba]
      rw [e] at hP'
      rw [if_pos hba] at fin
      have : v = .str b u := by simpa [sItems] using hP'.symm
      rw [this]; exact fin
    · have e : argBest (fun i j => decide ((sAt a b i).cps.toList < (sAt a b j).cps.toList)) 1 = 0 := by simp [argBest, sAt, hba]
      rw [e] at hP'
      rw [if_neg hba] at fin
      have : v = .str a t := by simpa [sItems] using hP'.symm
      rw [this]; exact fin
end
section
variable {X : Cx}
def rStr2 (g : Str → Str → Str) : DL := fun ws s R => match ws with
  | [.str i, .str j] => R (.str (g i j)) s
  | _ => False
abbrev rMaxS : DL := rStr2 fun a b => if a.cps.toList < b.cps.toList then b else a
abbrev rMinS : DL := rStr2 fun a b => if b.cps.toList < a.cps.toList then b else a
theorem cd_maxS (hc : X.calm = true) : CallR X (.builtin "max") (liftL X.K rMaxS) := by
  intro pins s σ H xs us Q I r ⟨ws, sg, R, r1, m, h, p⟩
  unfold rMaxS rStr2 at h
  split at h
  · rename_i a b
    obtain ⟨x, xs', rfl, r2, y, ys, rfl, r3, r4⟩ := r1
    cases (show ys = [] from r4)
    cases (show x = .str a from r2)
    cases (show y = .str b from r3)
    obtain ⟨u, w', rfl, ⟨t, rfl⟩, ⟨t', rfl⟩⟩ := vals2 r
    refine max_two_strs (I.ok.hd hc) fun h' tk k => ⟨_, H, I.kept k, ?_, p _ _ _ _ h (.refl _ _) m rfl⟩
    dsimp only
    by_cases hj : a.cps.toList < b.cps.toList
    · rw [if_pos hj, if_pos hj]; exact ⟨_, rfl⟩
    · rw [if_neg hj, if_neg hj]; exact ⟨_, rfl⟩
  · exact h.elim
theorem cd_minS (hc : X.calm = true) : CallR X (.builtin "min") (liftL X.K rMinS) := by
  intro pins s σ H xs us Q I r ⟨ws, sg, R, r1, m, h, p⟩
  unfold rMinS rStr2 at h
  split at h
  · rename_i a b
    obtain ⟨x, xs', rfl, r2, y, ys, rfl, r3, r4⟩ := r1
    cases (show ys = [] from r4)
    cases (show x = .str a from r2)
    cases (show y = .str b from r3)
    obtain ⟨u, w', rfl, ⟨t, rfl⟩, ⟨t', rfl⟩⟩ := vals2 r
    refine min_two_strs (I.ok.hd hc) fun h' tk k => ⟨_, H, I.kept k, ?_, p _ _ _ _ h (.refl _ _) m rfl⟩
    dsimp only
    by_cases hj : b.cps.toList < a.cps.toList
    · rw [if_pos hj, if_pos hj]; exact ⟨_, rfl⟩
    · rw [if_neg hj, if_neg hj]; exact ⟨_, rfl⟩
  · exact h.elim
end
section
variable {X : Cx}
theorem pd_setLcF {i : Nat} {y : Str} {py : Pos} {elt tg iter : Expr} {ifs : List Expr} {scope : Scope} {own : List (Str × Nat)} {pos spos : Pos} {ti : DI} {g : DG} {gv : TG} {tt : DT} {te : DE} (gi : GI X.K g gv) (wi : Wi (own.map (·.2)) gv) (hc : X.calm = true) (hN : X.N.Nodup) (hy : X.N[i]? = some y) (hyl : X.env.scope.names.lookup y = some .local)
    (hsw : swapsWith (.ListComp elt [⟨tg, iter, ifs, 0⟩] scope pos) (some (.Name y py)) spos.line X.env = pure true) (hi : PDI X tg iter ti) (ok : BlkOk X.N X.env.scope scope own)
    (hg : ∀ (s : Shared) (H : Hp) (C : Addr) (cl : List (Str × Addr)) (fp : List Addr), PG (X.blk s H scope (compEnvC scope cl C X.env) fp) tg gv) (ht : ∀ (s : Shared) (H : Hp) (C : Addr) (cl : List (Str × Addr)) (fp : List Addr), PDTs (X.blk s H scope (compEnvC scope cl C X.env) fp) ifs tt)
    (he : ∀ (s : Shared) (H : Hp) (C : Addr) (cl : List (Str × Addr)) (fp : List Addr), PD (X.blk s H scope (compEnvC scope cl C X.env) fp) elt te) (hs : ∀ x, foldedSetIterable iter X.env x = pure x := by intro _; rfl) :
    PDS X (.Assign [.Name y py] (.ListComp elt [⟨tg, iter, ifs, 0⟩] scope pos) spos) (dSet i (dF (dLc ti g tt te (own.map (·.2))))) := pd_setF (ps_setLc hc hN hy hyl hsw hi ok hg ht he hs) (lc_imp gi wi)
theorem pd_setLcM {i : Nat} {y : Str} {py : Pos} {elt tg iter : Expr} {ifs : List Expr} {scope : Scope} {own : List (Str × Nat)} {pos spos : Pos} {ti : DI} {g : DG} {gv : TG} {tt : DT} {te : DE} (gi : GI X.K g gv) (wi : Wi (own.map (·.2)) gv) (hc : X.calm = true) (hN : X.N.Nodup) (hy : X.N[i]? = some y) (hyl : X.env.scope.names.lookup y = some .local)
    (hsw : swapsWith (.ListComp elt [⟨tg, iter, ifs, 0⟩] scope pos) (some (.Name y py)) spos.line X.env = pure true) (hi : PDI X tg iter ti) (ok : BlkOk X.N X.env.scope scope own)
    (hg : ∀ (s : Shared) (H : Hp) (C : Addr) (cl : List (Str × Addr)) (fp : List Addr), PG (X.blk s H scope (compEnvC scope cl C X.env) fp) tg gv) (ht : ∀ (s : Shared) (H : Hp) (C : Addr) (cl : List (Str × Addr)) (fp : List Addr), PDTs (X.blk s H scope (compEnvC scope cl C X.env) fp) ifs tt)
    (he : ∀ (s : Shared) (H : Hp) (C : Addr) (cl : List (Str × Addr)) (fp : List Addr), PD (X.blk s H scope (compEnvC scope cl C X.env) fp) elt te) (hs : ∀ x, foldedSetIterable iter X.env x = pure x := by intro _; rfl) :
    PDS X (.Assign [.Name y py] (.ListComp elt [⟨tg, iter, ifs, 0⟩] scope pos) spos) (dSet i (dM (dLc ti g tt te (own.map (·.2))))) := pd_setM (ps_setLc hc hN hy hyl hsw hi ok hg ht he hs) (lc_imp gi wi)
end
theorem toPys_ints : ∀ ns : List Int, toPys (ns.map D.int) = some (ns.map PyData.int)
  | [] => rfl
  | n :: ns => by simp only [List.map_cons, toPys, toPy, toPys_ints ns, Option.bind_some, Option.map_some]
theorem lay_ints : ∀ ns : List Int, PyData.canLayAll0 (ns.map PyData.int) = true
  | [] => rfl
  | n :: ns => by show (true && PyData.canLayAll0 (ns.map PyData.int)) = true; rw [lay_ints ns]; rfl
theorem depth_ints : ∀ ns : List Int, PyData.depthAll (ns.map PyData.int) = 0
  | [] => rfl
  | n :: ns => by show max 0 (PyData.depthAll (ns.map PyData.int)) = 0; rw [depth_ints ns]; rfl
theorem shaped_ints (ns : List Int) : SeqAt.shaped (.list (ns.map PyData.int)) = true := by
  unfold SeqAt.shaped
  rw [show PyData.canLay0 (.list (ns.map PyData.int)) = true from lay_ints ns, show PyData.depth (.list (ns.map PyData.int)) = 1 by show PyData.depthAll _ + 1 = 1; rw [depth_ints]]
  rfl
end Dz
namespace Dz
open PySem PySem.Spec PyProof.Rows L2
section
variable {X : Cx}
/-! ### sorted of texts, any length -/
def rSortA : DN := fun ws s R => ∃ (w : D) (xs : List Str), ws = [w] ∧ asL s w = some (xs.map D.str) ∧ xs.length ≤ 1000000 ∧ ∀ ys : List Str, ys.Perm xs → sortedS ys = true → R (ys.map D.str) s
theorem cd_sortA : CallR X (.builtin "sorted") (liftNL X.K rSortA) := by
  intro pins s σ H vs us Q I r ⟨ws, sg, R, r1, m, h, p⟩
  obtain ⟨w, xs, rfl, hw, hl, h⟩ := h
  obtain ⟨v, r', rfl, r2, r3⟩ := r1
  cases (show r' = [] from r3)
  obtain ⟨a, us', rfl, f, g⟩ := asL_sq hw r2 m
  cases g.strs
  obtain ⟨its, rv, hl', _⟩ := I.list f
  rw [Vals.ref1 r]
  have hlen0 := rv.length
  rw [List.length_map] at hlen0
  refine PyProof.Rows.sorted_strsAny hl'.isList rv.strs (by rw [← hlen0]; exact Nat.le_trans hl mil) fun out ys h1 h2 h3 => ?_
  obtain ⟨ep, he'⟩ := PyProof.Rows.sortedAll_at s.heap its out
  have hlen : (ys.map V.str).length ≤ sizeLine := by rw [List.length_map, h2.length_eq]; exact Nat.le_trans hl mil
  have hn := I.hok.fresh (Nat.le_succ s.heap.objs.size)
  exact ⟨.ref _, upd H (s.heap.objs.size + 1) (.lst (ys.map V.str)), I.laid (t' := s.toks) (fun _ _ => PyProof.Rows.sortedAll_old) (Nat.le_succ _) ⟨hlen, out.toList, ep, vals_of_strs h1, he'⟩, rfl, p _ _ _ _ (h ys h2 h3) (.refl _ _) m Reps.ofStrs _ hn⟩
/-! ### xs.extend(ys) -/
def rExtendD (l : Addr) (R : KD) (y : D) (s2 : Sg) : Prop := trk (.ref l) s2 fun l ws => trk y s2 fun b zs => ws.length + zs.length ≤ 1000000 ∧ R .non (s2.put l (.lst (ws ++ zs)))
def dExtend (to ta : DE) : DE := fun env s R => to env s fun x s1 => trk x s1 fun l _ => ta env s1 fun y s2 => rExtendD l R y s2
variable {o a : Expr} {to ta : DE} {apos cpos : Pos}
theorem pd_extend (ho : PD X o to) (ha : PD X a ta) (hbase : attributeBase o "extend" X.env (eval o X.env) = eval o X.env := by rfl)
    (hfew : ((backTo cpos (starEach [a] X.env)).all (fun x => !x.1) && (backToKw cpos (keywordEach [] X.env)).all (fun x => x.1.isSome) && decide (([a] : List Expr).length + ([] : List Keyword).length + (if ([] : List Keyword).isEmpty then 0 else 1) < 30)) = true := by rfl)
    (hline : (apos.endLine == cpos.line) = true := by rfl) (hs : starEach [a] X.env = (false, eval a X.env) :: starEach [] X.env := by rfl) :
    PD X (.Call (.Attribute o "extend" apos) [a] [] cpos) (dExtend to ta) :=
  pe_imp (pe_bm PySem.F.plainAttrs_list PySem.F.slot_list_extend PySem.F.type_list_extend mt_extend ho (pda_cons ha pda_nil hs) hbase hfew hline hs) fun σ H Q ⟨env, s, R, h1, h2, h3, h4⟩ => by
    refine ⟨env, s, _, h1, h2, h3, fun x s1 v H1 q e1 m1 r1 => ?_⟩
    obtain ⟨l, ws, rfl, hm, q⟩ := trk_ok q
    cases (show v = .ref l from r1)
    refine ⟨ty_trk m1 hm, env, s1, (fun zs s2 => match zs with
      | [y] => rExtendD l R y s2
      | _ => False), h1.ext e1.ext, m1, q, fun zs s3 us H3 q3 e3 m3 r3 => ?_⟩
    dsimp only at q3
    split at q3
    · rename_i y
      obtain ⟨u, ur, rfl, r2, r4⟩ := r3
      cases (show ur = [] from r4)
      obtain ⟨l', ws', e, hm3, q3⟩ := trk_ok q3
      cases e
      obtain ⟨b, zs', rfl, hb3, c1, c2⟩ := trk_ok q3
      cases (show u = .ref b from r2)
      obtain ⟨ts, z1, z2⟩ := m3.at_ l _ hm3
      obtain ⟨us', y1, y2⟩ := m3.at_ b _ hb3
      have rs := Reps.append z2 y2
      obtain ⟨n1, n2⟩ := mrep_put m3 hm3 rs
      exact ⟨l, b, ts, us', rfl, rfl, z1, y1, by rw [← z2.len, ← y2.len]; exact Nat.le_trans c1 mil, h4 _ _ _ _ c2 ((e1.trans e3).trans n2) n1 rfl⟩
    · exact q3.elim
/-! ### x op= e of ints -/
def dAug (i : Nat) (te : DE) (C : Int → Int → Prop) (g : Int → Int → Int) : DS := fun D env s => match env[i]? with
  | some (some (.int a)) => te env s fun w s1 => match w with
    | .int b => C a b ∧ D.nx (env.set i (some (.int (g a b)))) s1
    | _ => False
  | _ => False
def PIpI (X : Cx) (op : Operator) (C : Int → Int → Prop) (g : Int → Int → Int) : Prop := PIp X op fun x y H Q => ∃ i j, x = .int i ∧ y = .int j ∧ C i j ∧ Q (.int (g i j)) H
theorem pd_aug {i : Nat} {x : Str} {e : Expr} {te : DE} {op : Operator} {C : Int → Int → Prop} {g : Int → Int → Int} {pos pos' : Pos} (hN : X.N.Nodup) (hi : X.N[i]? = some x) (hx : Loc X.env.scope x) (he : PD X e te) (ho : PIpI X op C g) (hf : X.fn x = true ∨ X.env.scope.names.lookup x = some .local := by first | exact .inl rfl | exact .inr rfl | assumption) :
    PDS X (.AugAssign (.Name x pos') op e pos) (dAug i te C g) :=
  ps_imp (ps_aug hN hi hx he ho hf) fun D σ H ⟨env, s, DD, h1, h2, h3, h4⟩ => by
    unfold dAug at h3
    split at h3
    · rename_i a ha
      obtain ⟨v, e1, e2⟩ := h1.2 i _ ha
      cases (show v = .int a from e2)
      refine ⟨.int a, e1, env, s, _, h1, h2, h3, fun w s1 u H1 q e m r => ?_⟩
      cases w with
      | int b =>
        cases (show u = .int b from r)
        exact ⟨a, b, rfl, rfl, q.1, h4.nx _ _ _ _ q.2 e m ((h1.ext e.ext).set i rfl)⟩
      | _ => exact q.elim
    · exact h3.elim
theorem ia_add : PIpI X .Add (fun _ _ => True) (fun i j => i + j) := fun pins s σ H x y v u Q I r1 r2 ⟨i, j, e1, e2, _, q⟩ => ip_add pins s σ H x y v u Q I r1 r2 ⟨i, j, e1, e2, q⟩
theorem ia_sub : PIpI X .Sub (fun _ _ => True) (fun i j => i - j) := fun pins s σ H x y v u Q I r1 r2 ⟨i, j, e1, e2, _, q⟩ => ip_sub pins s σ H x y v u Q I r1 r2 ⟨i, j, e1, e2, q⟩
theorem ia_mul : PIpI X .Mult CMul (fun i j => i * j) := fun pins s σ H x y v u Q I r1 r2 ⟨i, j, e1, e2, hc, q⟩ => by
  subst e1; subst e2
  obtain ⟨t, rfl⟩ := r1
  obtain ⟨t', rfl⟩ := r2
  exact PyProof.Rows.imul_int ⟨.int _, H, I.tok _, ⟨_, rfl⟩, q⟩ hc.ok
theorem ia_fdiv : PIpI X .FloorDiv CDiv (fun i j => i / j) := fun pins s σ H x y v u Q I r1 r2 ⟨i, j, e1, e2, hc, q⟩ => by
  subst e1; subst e2
  obtain ⟨t, rfl⟩ := r1
  obtain ⟨t', rfl⟩ := r2
  have h1 : (0 : Int) < j := hc.1
  have h2 : j < 1073741824 := hc.2
  exact PyProof.Rows.ifloordiv_int (by omega) ⟨.int _, H, I.tok _, by rw [Int.fdiv_eq_ediv_of_nonneg i (by omega)]; exact ⟨_, rfl⟩, q⟩ (.inl (PyProof.noPylong_small (by omega)))
end
end Dz
namespace Pr
open PySem PySem.Spec PyProof.Rows L2 Dz
def top (i : Nat) : Stmt := PySem.Challenge.pw_treewalks_k32_orders_counted.main.body.getD i (.Pass ⟨0, 0, 0, 0⟩)
structure Bi (mg : Str → Option Value) : Prop where
  abs : mg "abs" = none
  bool : mg "bool" = none
  dict : mg "dict" = none
  int : mg "int" = none
  isinstance : mg "isinstance" = none
  len : mg "len" = none
  list : mg "list" = none
  range : mg "range" = none
  repr : mg "repr" = none
  sorted : mg "sorted" = none
  str : mg "str" = none
  sum : mg "sum" = none
  tuple : mg "tuple" = none
abbrev N_size_of : List Str := ["tree", "left", "label", "right"]
theorem sc_size_of : FnScope N_size_of ["tree"] (defScope (top 1)) := ⟨rfl, rfl, rfl, by decide +kernel, rfl, by decide +kernel, by decide +kernel⟩
def t_size_of (sp_size_of : SpD) : DS := (dSeq (dIf (dB (dOp rIs (dVar 0) (dC .non))) (dRet (dC (.int 0))) dNx)
    (dSeq (dAsg (dVar 0) (dgT 3 (dgCons (dgN 1) (dgCons (dgN 2) (dgCons (dgN 3) dgNil)))))
    (dRet (dOp rAddU (dOp rAddU (dCall sp_size_of (dCons (dVar 1) dNil)) (dC (.int 1))) (dCall sp_size_of (dCons (dVar 3) dNil))))))
theorem b_size_of {P : Program} {w : World} {K : PySem.W.Frag} {mg : Str → Option Value} {base : Heap} {k : Nat} {f : Addr} {cdv : Value} {A : Around} {outer : List Env} {s : Shared} {H : Hp} {E : XK} (B : Bi mg) (hr : Room k (A.deeper (envOfC "size_of" (defScope (top 1)) s.heap.objs.size f cdv))) (hgd : (A.deeper (envOfC "size_of" (defScope (top 1)) s.heap.objs.size f cdv)).guards = some []) {k_size_of : Nat} {sp_size_of : SpD} (D_size_of : Df P w K mg base CX0 k_size_of "size_of" ["tree"] sp_size_of) (h_size_of : k_size_of ≤ k) : PDSs (cxOf CX0 P w K mg base N_size_of "size_of" (defScope (top 1)) f cdv A outer s H E).nox (defBody (top 1)) (t_size_of sp_size_of) :=
  (pds_cons (pd_if (pdt_cmp od_is (pd_var 0) pd_non (nomark _)) (pds_one (pd_ret pd_int)) pds_nil)
    (pds_cons (pd_asg (pd_var 0) (pdg_tup rfl (pdgs_cons (pdg_name (i := 1) sc_size_of.nd rfl (Or.inl rfl)) (pdgs_cons (pdg_name (i := 2) sc_size_of.nd rfl (Or.inl rfl)) (pdgs_cons (pdg_name (i := 3) sc_size_of.nd rfl (Or.inl rfl)) pdgs_nil)))))
    (pds_one (pd_ret (pd_add (pd_add (pd_call D_size_of (hr.mono h_size_of) hgd rfl (pda_cons (pd_var 1) pda_nil)) pd_int) (pd_call D_size_of (hr.mono h_size_of) hgd rfl (pda_cons (pd_var 3) pda_nil)))))))
abbrev N_factorial : List Str := ["number", "found", "factor"]
theorem sc_factorial : FnScope N_factorial ["number"] (defScope (top 3)) := ⟨rfl, rfl, rfl, by decide +kernel, rfl, by decide +kernel, by decide +kernel⟩
def t_factorial : DS := (dSeq (dSet 1 (dC (.int 1)))
    (dSeq (dFor (dRng2 (dCons (dC (.int 2)) (dCons (dOp rAddU (dVar 0) (dC (.int 1))) dNil))) (dgN 2) (dAug 1 (dVar 2) CMul (fun i j => i * j)))
    (dRet (dVar 1))))
theorem b_factorial {P : Program} {w : World} {K : PySem.W.Frag} {mg : Str → Option Value} {base : Heap} {k : Nat} {f : Addr} {cdv : Value} {A : Around} {outer : List Env} {s : Shared} {H : Hp} {E : XK} (B : Bi mg) (hr : Room k (A.deeper (envOfC "factorial" (defScope (top 3)) s.heap.objs.size f cdv))) (hgd : (A.deeper (envOfC "factorial" (defScope (top 3)) s.heap.objs.size f cdv)).guards = some []) : PDSs (cxOf CX0 P w K mg base N_factorial "factorial" (defScope (top 3)) f cdv A outer s H E).nox (defBody (top 3)) (t_factorial) :=
  (pds_cons (pd_set (i := 1) sc_factorial.nd rfl (Or.inl rfl) pd_int)
    (pds_cons (pd_for PassesOwn.never rfl (pdi_range2 rfl B.range (pda_cons pd_int (pda_cons (pd_add (pd_var 0) pd_int) pda_nil))) (pdg_name (i := 2) sc_factorial.nd rfl (Or.inl rfl)) (pds_one (pd_aug (i := 1) sc_factorial.nd rfl (Or.inl rfl) (pd_var 2) ia_mul)))
    (pds_one (pd_ret (pd_var 1)))))
abbrev N_product_of_sizes : List Str := ["tree", "left", "label", "right"]
theorem sc_product_of_sizes : FnScope N_product_of_sizes ["tree"] (defScope (top 4)) := ⟨rfl, rfl, rfl, by decide +kernel, rfl, by decide +kernel, by decide +kernel⟩
def t_product_of_sizes (sp_size_of : SpD) (sp_product_of_sizes : SpD) : DS := (dSeq (dIf (dB (dOp rIs (dVar 0) (dC .non))) (dRet (dC (.int 1))) dNx)
    (dSeq (dAsg (dVar 0) (dgT 3 (dgCons (dgN 1) (dgCons (dgN 2) (dgCons (dgN 3) dgNil)))))
    (dRet (dOp rMulU (dOp rMulU (dCall sp_size_of (dCons (dVar 0) dNil)) (dCall sp_product_of_sizes (dCons (dVar 1) dNil))) (dCall sp_product_of_sizes (dCons (dVar 3) dNil))))))
theorem b_product_of_sizes {P : Program} {w : World} {K : PySem.W.Frag} {mg : Str → Option Value} {base : Heap} {k : Nat} {f : Addr} {cdv : Value} {A : Around} {outer : List Env} {s : Shared} {H : Hp} {E : XK} (B : Bi mg) (hr : Room k (A.deeper (envOfC "product_of_sizes" (defScope (top 4)) s.heap.objs.size f cdv))) (hgd : (A.deeper (envOfC "product_of_sizes" (defScope (top 4)) s.heap.objs.size f cdv)).guards = some []) {k_size_of : Nat} {sp_size_of : SpD} (D_size_of : Df P w K mg base CX0 k_size_of "size_of" ["tree"] sp_size_of) (h_size_of : k_size_of ≤ k) {k_product_of_sizes : Nat} {sp_product_of_sizes : SpD} (D_product_of_sizes : Df P w K mg base CX0 k_product_of_sizes "product_of_sizes" ["tree"] sp_product_of_sizes) (h_product_of_sizes : k_product_of_sizes ≤ k) : PDSs (cxOf CX0 P w K mg base N_product_of_sizes "product_of_sizes" (defScope (top 4)) f cdv A outer s H E).nox (defBody (top 4)) (t_product_of_sizes sp_size_of sp_product_of_sizes) :=
  (pds_cons (pd_if (pdt_cmp od_is (pd_var 0) pd_non (nomark _)) (pds_one (pd_ret pd_int)) pds_nil)
    (pds_cons (pd_asg (pd_var 0) (pdg_tup rfl (pdgs_cons (pdg_name (i := 1) sc_product_of_sizes.nd rfl (Or.inl rfl)) (pdgs_cons (pdg_name (i := 2) sc_product_of_sizes.nd rfl (Or.inl rfl)) (pdgs_cons (pdg_name (i := 3) sc_product_of_sizes.nd rfl (Or.inl rfl)) pdgs_nil)))))
    (pds_one (pd_ret (pd_mul (pd_mul (pd_call D_size_of (hr.mono h_size_of) hgd rfl (pda_cons (pd_var 0) pda_nil)) (pd_call D_product_of_sizes (hr.mono h_product_of_sizes) hgd rfl (pda_cons (pd_var 1) pda_nil))) (pd_call D_product_of_sizes (hr.mono h_product_of_sizes) hgd rfl (pda_cons (pd_var 3) pda_nil)))))))
abbrev N_count_mixed : List Str := ["parts", "found", "part"]
theorem sc_count_mixed : FnScope N_count_mixed ["parts"] (defScope (top 5)) := ⟨rfl, rfl, rfl, by decide +kernel, rfl, by decide +kernel, by decide +kernel⟩
def t_count_mixed (sp_factorial : SpD) (sp_size_of : SpD) (sp_product_of_sizes : SpD) : DS := (dSeq (dSet 1 (dCall sp_factorial (dCons (dCB rSumU (dCons (dF (dLc (dIt (dVar 0)) (dgN 2) dYes (dCall sp_size_of (dCons (dVar 2) dNil)) [2])) dNil)) dNil)))
    (dSeq (dFor (dIt (dVar 0)) (dgN 2) (dAug 1 (dCall sp_product_of_sizes (dCons (dVar 2) dNil)) CDiv (fun i j => i / j)))
    (dRet (dVar 1))))
theorem b_count_mixed {P : Program} {w : World} {K : PySem.W.Frag} {mg : Str → Option Value} {base : Heap} {k : Nat} {f : Addr} {cdv : Value} {A : Around} {outer : List Env} {s : Shared} {H : Hp} {E : XK} (B : Bi mg) (hr : Room k (A.deeper (envOfC "count_mixed" (defScope (top 5)) s.heap.objs.size f cdv))) (hgd : (A.deeper (envOfC "count_mixed" (defScope (top 5)) s.heap.objs.size f cdv)).guards = some []) {k_factorial : Nat} {sp_factorial : SpD} (D_factorial : Df P w K mg base CX0 k_factorial "factorial" ["number"] sp_factorial) (h_factorial : k_factorial ≤ k) {k_size_of : Nat} {sp_size_of : SpD} (D_size_of : Df P w K mg base CX0 k_size_of "size_of" ["tree"] sp_size_of) (h_size_of : k_size_of ≤ k) {k_product_of_sizes : Nat} {sp_product_of_sizes : SpD} (D_product_of_sizes : Df P w K mg base CX0 k_product_of_sizes "product_of_sizes" ["tree"] sp_product_of_sizes) (h_product_of_sizes : k_product_of_sizes ≤ k) : PDSs (cxOf CX0 P w K mg base N_count_mixed "count_mixed" (defScope (top 5)) f cdv A outer s H E).nox (defBody (top 5)) (t_count_mixed sp_factorial sp_size_of sp_product_of_sizes) :=
  (pds_cons (pd_set (i := 1) sc_count_mixed.nd rfl (Or.inl rfl) (pd_call D_factorial (hr.mono h_factorial) hgd rfl (pda_cons (pd_callB (cd_sum rfl) rfl B.sum bb_sum (pda_cons (pd_F (nl_lc (own := [("part", 2)]) (gi_name 2) (wi_name (by decide)) rfl sc_count_mixed.nd (pdi_it (pd_var 0)) (blkOk_by (own := [("part", 2)]) (N := N_count_mixed) (sc := defScope (top 5)) (by decide +kernel)) (fun _ _ _ _ _ => (pg_name (i := 2) sc_count_mixed.nd rfl (Or.inl rfl))) (fun _ _ _ _ _ => pdts_nil) (fun _ _ _ _ _ => (pd_call D_size_of (hr.mono h_size_of) hgd rfl (pda_cons (pd_var 2) pda_nil))))) pda_nil)) pda_nil)))
    (pds_cons (pd_for PassesOwn.never rfl (pdi_it (pd_var 0)) (pdg_name (i := 2) sc_count_mixed.nd rfl (Or.inl rfl)) (pds_one (pd_aug (i := 1) sc_count_mixed.nd rfl (Or.inl rfl) (pd_call D_product_of_sizes (hr.mono h_product_of_sizes) hgd rfl (pda_cons (pd_var 2) pda_nil)) ia_fdiv)))
    (pds_one (pd_ret (pd_var 1)))))
abbrev N_count_orders : List Str := ["tree"]
theorem sc_count_orders : FnScope N_count_orders ["tree"] (defScope (top 6)) := ⟨rfl, rfl, rfl, by decide +kernel, rfl, by decide +kernel, by decide +kernel⟩
def t_count_orders (sp_count_mixed : SpD) : DS := (dRet (dCall sp_count_mixed (dCons (dF (dSz (dCons (dVar 0) dNil))) dNil)))
theorem b_count_orders {P : Program} {w : World} {K : PySem.W.Frag} {mg : Str → Option Value} {base : Heap} {k : Nat} {f : Addr} {cdv : Value} {A : Around} {outer : List Env} {s : Shared} {H : Hp} {E : XK} (B : Bi mg) (hr : Room k (A.deeper (envOfC "count_orders" (defScope (top 6)) s.heap.objs.size f cdv))) (hgd : (A.deeper (envOfC "count_orders" (defScope (top 6)) s.heap.objs.size f cdv)).guards = some []) {k_count_mixed : Nat} {sp_count_mixed : SpD} (D_count_mixed : Df P w K mg base CX0 k_count_mixed "count_mixed" ["parts"] sp_count_mixed) (h_count_mixed : k_count_mixed ≤ k) : PDSs (cxOf CX0 P w K mg base N_count_orders "count_orders" (defScope (top 6)) f cdv A outer s H E).nox (defBody (top 6)) (t_count_orders sp_count_mixed) :=
  (pds_one (pd_ret (pd_call D_count_mixed (hr.mono h_count_mixed) hgd rfl (pda_cons (pd_F (nl_lst (pda_cons (pd_var 0) pda_nil))) pda_nil))))
abbrev N_law_begin : List Str := ["_law_script", "_law_greats", "_law_whole", "_law_cell"]
theorem sc_law_begin : FnScope N_law_begin ["_law_script"] (defScope (top 8)) := ⟨rfl, rfl, rfl, by decide +kernel, rfl, by decide +kernel, by decide +kernel⟩
def t_law_begin : DS := (dSeq (dSet 1 (dF (dLc (dIt (dVar 0)) (dgN 3) (dB (dOp rGe (dCB rAbs (dCons (dVar 3) dNil)) (dOp rPow (dC (.int 10)) (dC (.int 18))))) (dCB rAbs (dCons (dVar 3) dNil)) [3])))
    (dSeq (dSet 2 (dOp rAddU (dC (.int 66)) (dCB rLenU (dCons (dVar 0) dNil))))
    (dSeq (dFor (dIt (dVar 0)) (dgN 3) (dSet 2 (dOp rMod (dOp rAddU (dOp rAddU (dOp rMulU (dVar 2) (dC (.int 1000033))) (dOp rMulU (dC (.int 2)) (dCB rAbs (dCons (dVar 3) dNil)))) (dCB rToInt (dCons (dOp rLt (dVar 3) (dC (.int 0))) dNil))) (dC (.int 2305843009213693951)))))
    (dRet (dM (dSz (dCons (dM (dRevA (dVar 1))) (dCons (dVar 2) (dCons (dC (.int 0)) dNil)))))))))
theorem b_law_begin {P : Program} {w : World} {K : PySem.W.Frag} {mg : Str → Option Value} {base : Heap} {k : Nat} {f : Addr} {cdv : Value} {A : Around} {outer : List Env} {s : Shared} {H : Hp} {E : XK} (B : Bi mg) (hr : Room k (A.deeper (envOfC "_law_begin" (defScope (top 8)) s.heap.objs.size f cdv))) (hgd : (A.deeper (envOfC "_law_begin" (defScope (top 8)) s.heap.objs.size f cdv)).guards = some []) : PDSs (cxOf CX0 P w K mg base N_law_begin "_law_begin" (defScope (top 8)) f cdv A outer s H E).nox (defBody (top 8)) (t_law_begin) :=
  (pds_cons (pd_setLcF (i := 1) (own := [("_law_cell", 3)]) (gi_name 3) (wi_name (by decide)) rfl sc_law_begin.nd rfl rfl (sw_true rfl rfl rfl (by decide +kernel)) (pdi_it (pd_var 0)) (blkOk_by (own := [("_law_cell", 3)]) (N := N_law_begin) (sc := defScope (top 8)) (by decide +kernel)) (fun _ _ _ _ _ => (pg_name (i := 3) sc_law_begin.nd rfl (Or.inl rfl))) (fun _ _ _ _ _ => (pdts_one (pdt_cmp od_ge (pd_callB cd_abs rfl B.abs bb_abs (pda_cons (pd_var 3) pda_nil)) (pd_op od_pow pd_int pd_int) (nomark _)))) (fun _ _ _ _ _ => (pd_callB cd_abs rfl B.abs bb_abs (pda_cons (pd_var 3) pda_nil))))
    (pds_cons (pd_set (i := 2) sc_law_begin.nd rfl (Or.inl rfl) (pd_add pd_int (pd_callB cd_len rfl B.len bb_len (pda_cons (pd_var 0) pda_nil))))
    (pds_cons (pd_for PassesOwn.never rfl (pdi_it (pd_var 0)) (pdg_name (i := 3) sc_law_begin.nd rfl (Or.inl rfl)) (pds_one (pd_set (i := 2) sc_law_begin.nd rfl (Or.inl rfl) (pd_op od_mod (pd_add (pd_add (pd_mul (pd_var 2) pd_int) (pd_mul pd_int (pd_callB cd_abs rfl B.abs bb_abs (pda_cons (pd_var 3) pda_nil)))) (pd_callTy cd_int rfl B.int bb_int (pda_cons (pd_cmp od_lt (pd_var 3) pd_int (nomark _)) pda_nil))) pd_int))))
    (pds_one (pd_ret (pd_M (nl_lst (pda_cons (pd_M (nl_rev (pd_var 1))) (pda_cons (pd_var 2) (pda_cons pd_int pda_nil))))))))))
abbrev N_law_next : List Str := ["_law_deck", "_law_many", "_law_rest", "_law_mixed_here"]
theorem sc_law_next : FnScope N_law_next ["_law_deck", "_law_many"] (defScope (top 9)) := ⟨rfl, rfl, rfl, by decide +kernel, rfl, by decide +kernel, by decide +kernel⟩
def t_law_next : DS := (dSeq (dWhile (dB (dOp rNe (dOp rIxU (dVar 0) (dC (.int 0))) (dF (dSz dNil)))) (dSeq (dSet 2 (dPop (dOp rIxU (dVar 0) (dC (.int 0)))))
    (dIf (dB (dOp rGt (dVar 2) (dC (.int 0)))) (dSeq (dExpr (dAppend (dOp rIxU (dVar 0) (dC (.int 0))) (dOp rDiv (dVar 2) (dVar 1))))
    (dRet (dOp rMod (dVar 2) (dVar 1)))) dNx)))
    (dSeq (dSetIx (dOp rAddU (dOp rIxU (dVar 0) (dC (.int 2))) (dC (.int 1))) (dVar 0) (dC (.int 2)))
    (dSeq (dSet 3 (dOp rAddU (dOp rMulU (dOp rIxU (dVar 0) (dC (.int 1))) (dOp rAddU (dC (.int 48271)) (dOp rMulU (dC (.int 69621)) (dOp rIxU (dVar 0) (dC (.int 2)))))) (dOp rMulU (dC (.int 40692)) (dOp rIxU (dVar 0) (dC (.int 2))))))
    (dSeq (dSet 3 (dOp rMod (dVar 3) (dC (.int 2305843009213693951))))
    (dSeq (dSet 3 (dOp rMod (dOp rMulU (dVar 3) (dVar 3)) (dC (.int 2305843009213693951))))
    (dRet (dOp rMod (dOp rDiv (dOp rMod (dOp rMulU (dVar 3) (dVar 3)) (dC (.int 4611686018427387847))) (dC (.int 16))) (dVar 1))))))))
theorem b_law_next {P : Program} {w : World} {K : PySem.W.Frag} {mg : Str → Option Value} {base : Heap} {k : Nat} {f : Addr} {cdv : Value} {A : Around} {outer : List Env} {s : Shared} {H : Hp} {E : XK} (B : Bi mg) (hr : Room k (A.deeper (envOfC "_law_next" (defScope (top 9)) s.heap.objs.size f cdv))) (hgd : (A.deeper (envOfC "_law_next" (defScope (top 9)) s.heap.objs.size f cdv)).guards = some []) : PDSs (cxOf CX0 P w K mg base N_law_next "_law_next" (defScope (top 9)) f cdv A outer s H E).nox (defBody (top 9)) (t_law_next) :=
  (pds_cons (pd_while PassesOwn.never (pdt_cmp (od_ne hr.units) (pd_ix (pd_var 0) pd_int (fun _ _ => rfl)) (pd_F (nl_lst pda_nil)) (nomark _)) (pds_cons (pd_set (i := 2) sc_law_next.nd rfl (Or.inl rfl) (pd_pop (pd_ix (pd_var 0) pd_int (fun _ _ => rfl))))
    (pds_one (pd_if (pdt_cmp od_gt (pd_var 2) pd_int (nomark _)) (pds_cons (pd_expr (pd_append (pd_ix (pd_var 0) pd_int (fun _ _ => rfl)) (pd_op od_fdiv (pd_var 2) (pd_var 1))))
    (pds_one (pd_ret (pd_op od_mod (pd_var 2) (pd_var 1))))) pds_nil))))
    (pds_cons (pd_setIx (pd_add (pd_ix (pd_var 0) pd_int (fun _ _ => rfl)) pd_int) (pd_var 0) pd_int)
    (pds_cons (pd_set (i := 3) sc_law_next.nd rfl (Or.inl rfl) (pd_add (pd_mul (pd_ix (pd_var 0) pd_int (fun _ _ => rfl)) (pd_add pd_int (pd_mul pd_int (pd_ix (pd_var 0) pd_int (fun _ _ => rfl))))) (pd_mul pd_int (pd_ix (pd_var 0) pd_int (fun _ _ => rfl)))))
    (pds_cons (pd_set (i := 3) sc_law_next.nd rfl (Or.inl rfl) (pd_op od_mod (pd_var 3) pd_int))
    (pds_cons (pd_set (i := 3) sc_law_next.nd rfl (Or.inl rfl) (pd_op od_mod (pd_mul (pd_var 3) (pd_var 3)) pd_int))
    (pds_one (pd_ret (pd_op od_mod (pd_op od_fdiv (pd_op od_mod (pd_mul (pd_var 3) (pd_var 3)) pd_int) pd_int) (pd_var 1)))))))))
abbrev N_law_same : List Str := ["_law_found", "_law_due", "_law_k"]
theorem sc_law_same : FnScope N_law_same ["_law_found", "_law_due"] (defScope (top 10)) := ⟨rfl, rfl, rfl, by decide +kernel, rfl, by decide +kernel, by decide +kernel⟩
def t_law_same (sp_law_same : SpD) : DS := (dSeq (dIf (dB (dCB rIsi (dCons (dVar 1) (dCons (dTup (dCons (dC (.ty "tuple")) (dCons (dC (.ty "list")) dNil))) dNil)))) (dSeq (dIf (dB (dOp rNe (dCB rIsi (dCons (dVar 0) (dCons (dC (.ty "tuple")) dNil))) (dCB rIsi (dCons (dVar 1) (dCons (dC (.ty "tuple")) dNil))))) (dRet (dC (.bl false))) dNx)
    (dSeq (dIf (dOr (dB (dOp rNe (dCB rIsi (dCons (dVar 0) (dCons (dC (.ty "list")) dNil))) (dCB rIsi (dCons (dVar 1) (dCons (dC (.ty "list")) dNil))))) (dB (dOp rNe (dCB rLenU (dCons (dVar 0) dNil)) (dCB rLenU (dCons (dVar 1) dNil))))) (dRet (dC (.bl false))) dNx)
    (dRet (dOp rEq (dF (dLc (dRng1 (dCons (dCB rLenU (dCons (dVar 1) dNil)) dNil)) (dgN 2) (dNot (dB (dCall sp_law_same (dCons (dOp rIxU (dVar 0) (dVar 2)) (dCons (dOp rIxU (dVar 1) (dVar 2)) dNil))))) (dVar 2) [2])) (dF (dSz dNil)))))) dNx)
    (dSeq (dIf (dB (dCB rIsi (dCons (dVar 1) (dCons (dC (.ty "dict")) dNil)))) (dRet (dAndV (dCB rIsi (dCons (dVar 0) (dCons (dC (.ty "dict")) dNil))) (dOp rEq (dVar 0) (dVar 1)))) dNx)
    (dSeq (dIf (dB (dOp rIs (dVar 1) (dC .non))) (dRet (dOp rIs (dVar 0) (dC .non))) dNx)
    (dSeq (dIf (dB (dCB rIsi (dCons (dVar 1) (dCons (dC (.ty "str")) dNil)))) (dRet (dAndV (dCB rIsi (dCons (dVar 0) (dCons (dC (.ty "str")) dNil))) (dOp rEq (dVar 0) (dVar 1)))) dNx)
    (dRet (dAndV (dCB rIsi (dCons (dVar 0) (dCons (dC (.ty "int")) dNil))) (dAndV (dOp rEq (dCB rIsi (dCons (dVar 0) (dCons (dC (.ty "bool")) dNil))) (dCB rIsi (dCons (dVar 1) (dCons (dC (.ty "bool")) dNil)))) (dOp rEq (dVar 0) (dVar 1)))))))))
theorem b_law_same {P : Program} {w : World} {K : PySem.W.Frag} {mg : Str → Option Value} {base : Heap} {k : Nat} {f : Addr} {cdv : Value} {A : Around} {outer : List Env} {s : Shared} {H : Hp} {E : XK} (B : Bi mg) (hr : Room k (A.deeper (envOfC "_law_same" (defScope (top 10)) s.heap.objs.size f cdv))) (hgd : (A.deeper (envOfC "_law_same" (defScope (top 10)) s.heap.objs.size f cdv)).guards = some []) {k_law_same : Nat} {sp_law_same : SpD} (D_law_same : Df P w K mg base CX0 k_law_same "_law_same" ["_law_found", "_law_due"] sp_law_same) (h_law_same : k_law_same ≤ k) : PDSs (cxOf CX0 P w K mg base N_law_same "_law_same" (defScope (top 10)) f cdv A outer s H E).nox (defBody (top 10)) (t_law_same sp_law_same) :=
  (pds_cons (pd_if (pdt_val (pd_callB cd_isi rfl B.isinstance bb_isinstance (pda_cons (pd_var 1) (pda_cons (pd_tup (pda_cons (pd_ty rfl B.tuple bb_tuple) (pda_cons (pd_ty rfl B.list bb_list) pda_nil))) pda_nil)))) (pds_cons (pd_if (pdt_cmp (od_ne hr.units) (pd_callB cd_isi rfl B.isinstance bb_isinstance (pda_cons (pd_var 0) (pda_cons (pd_ty rfl B.tuple bb_tuple) pda_nil))) (pd_callB cd_isi rfl B.isinstance bb_isinstance (pda_cons (pd_var 1) (pda_cons (pd_ty rfl B.tuple bb_tuple) pda_nil))) (nomark _)) (pds_one (pd_ret pd_bl)) pds_nil)
    (pds_cons (pd_if (pdw_t (pdw_or (pdt_cmp (od_ne hr.units) (pd_callB cd_isi rfl B.isinstance bb_isinstance (pda_cons (pd_var 0) (pda_cons (pd_ty rfl B.list bb_list) pda_nil))) (pd_callB cd_isi rfl B.isinstance bb_isinstance (pda_cons (pd_var 1) (pda_cons (pd_ty rfl B.list bb_list) pda_nil))) (nomark _)) (pdw_or1 (pdt_cmp (od_ne hr.units) (pd_callB cd_len rfl B.len bb_len (pda_cons (pd_var 0) pda_nil)) (pd_callB cd_len rfl B.len bb_len (pda_cons (pd_var 1) pda_nil)) (nomark _))))) (pds_one (pd_ret pd_bl)) pds_nil)
    (pds_one (pd_ret (pd_cmp (od_eq hr.units) (pd_F (nl_lc (own := [("_law_k", 2)]) (gi_name 2) (wi_name (by decide)) rfl sc_law_same.nd (pdi_range1 rfl B.range (pda_cons (pd_callB cd_len rfl B.len bb_len (pda_cons (pd_var 1) pda_nil)) pda_nil)) (blkOk_by (own := [("_law_k", 2)]) (N := N_law_same) (sc := defScope (top 10)) (by decide +kernel)) (fun _ _ _ _ _ => (pg_name (i := 2) sc_law_same.nd rfl (Or.inl rfl))) (fun _ _ _ _ _ => (pdts_one (pdt_not (pdt_val (pd_call D_law_same (hr.mono h_law_same) hgd rfl (pda_cons (pd_ix (pd_var 0) (pd_var 2) (fun _ _ => rfl)) (pda_cons (pd_ix (pd_var 1) (pd_var 2) (fun _ _ => rfl)) pda_nil))))))) (fun _ _ _ _ _ => (pd_var 2)))) (pd_F (nl_lst pda_nil)) (nomark _)))))) pds_nil)
    (pds_cons (pd_if (pdt_val (pd_callB cd_isi rfl B.isinstance bb_isinstance (pda_cons (pd_var 1) (pda_cons (pd_ty rfl B.dict bb_dict) pda_nil)))) (pds_one (pd_ret (pd_and (pd_callB cd_isi rfl B.isinstance bb_isinstance (pda_cons (pd_var 0) (pda_cons (pd_ty rfl B.dict bb_dict) pda_nil))) (pd_one (pd_cmp (od_eq hr.units) (pd_var 0) (pd_var 1) (nomark _)))))) pds_nil)
    (pds_cons (pd_if (pdt_cmp od_is (pd_var 1) pd_non (nomark _)) (pds_one (pd_ret (pd_cmp od_is (pd_var 0) pd_non (nomark _)))) pds_nil)
    (pds_cons (pd_if (pdt_val (pd_callB cd_isi rfl B.isinstance bb_isinstance (pda_cons (pd_var 1) (pda_cons (pd_ty rfl B.str bb_str) pda_nil)))) (pds_one (pd_ret (pd_and (pd_callB cd_isi rfl B.isinstance bb_isinstance (pda_cons (pd_var 0) (pda_cons (pd_ty rfl B.str bb_str) pda_nil))) (pd_one (pd_cmp (od_eq hr.units) (pd_var 0) (pd_var 1) (nomark _)))))) pds_nil)
    (pds_one (pd_ret (pd_and (pd_callB cd_isi rfl B.isinstance bb_isinstance (pda_cons (pd_var 0) (pda_cons (pd_ty rfl B.int bb_int) pda_nil))) (pd_and (pd_cmp (od_eq hr.units) (pd_callB cd_isi rfl B.isinstance bb_isinstance (pda_cons (pd_var 0) (pda_cons (pd_ty rfl B.bool bb_bool) pda_nil))) (pd_callB cd_isi rfl B.isinstance bb_isinstance (pda_cons (pd_var 1) (pda_cons (pd_ty rfl B.bool bb_bool) pda_nil))) (nomark _)) (pd_one (pd_cmp (od_eq hr.units) (pd_var 0) (pd_var 1) (nomark _)))))))))))
abbrev N_law_mixed : List Str := ["_law_deck", "_law_items", "_law_rest", "_law_found"]
theorem sc_law_mixed : FnScope N_law_mixed ["_law_deck", "_law_items"] (defScope (top 11)) := ⟨rfl, rfl, rfl, by decide +kernel, rfl, by decide +kernel, by decide +kernel⟩
def t_law_mixed (sp_law_next : SpD) : DS := (dSeq (dPar 2 3 (dCons (dM (dCN rListU (dCons (dVar 1) dNil))) (dCons (dM (dSz dNil)) dNil)))
    (dSeq (dWhile (dB (dOp rNe (dVar 2) (dF (dSz dNil)))) (dExpr (dAppend (dVar 3) (dPopAt (dVar 2) (dCall sp_law_next (dCons (dVar 0) (dCons (dCB rLenU (dCons (dVar 2) dNil)) dNil)))))))
    (dRet (dFrz (dVar 3)))))
theorem b_law_mixed {P : Program} {w : World} {K : PySem.W.Frag} {mg : Str → Option Value} {base : Heap} {k : Nat} {f : Addr} {cdv : Value} {A : Around} {outer : List Env} {s : Shared} {H : Hp} {E : XK} (B : Bi mg) (hr : Room k (A.deeper (envOfC "_law_mixed" (defScope (top 11)) s.heap.objs.size f cdv))) (hgd : (A.deeper (envOfC "_law_mixed" (defScope (top 11)) s.heap.objs.size f cdv)).guards = some []) {k_law_next : Nat} {sp_law_next : SpD} (D_law_next : Df P w K mg base CX0 k_law_next "_law_next" ["_law_deck", "_law_many"] sp_law_next) (h_law_next : k_law_next ≤ k) : PDSs (cxOf CX0 P w K mg base N_law_mixed "_law_mixed" (defScope (top 11)) f cdv A outer s H E).nox (defBody (top 11)) (t_law_mixed sp_law_next) :=
  (pds_cons (pd_par (i := 2) (j := 3) rfl sc_law_mixed.nd rfl rfl (by decide) rfl rfl (pda_cons (pd_M (nl_callTy (cd_list rfl) rfl B.list bb_list (pda_cons (pd_var 1) pda_nil))) (pda_cons (pd_M (nl_lst pda_nil)) pda_nil)))
    (pds_cons (pd_while PassesOwn.never (pdt_cmp (od_ne hr.units) (pd_var 2) (pd_F (nl_lst pda_nil)) (nomark _)) (pds_one (pd_expr (pd_append (pd_var 3) (pd_popAt (pd_var 2) (pd_call D_law_next (hr.mono h_law_next) hgd rfl (pda_cons (pd_var 0) (pda_cons (pd_callB cd_len rfl B.len bb_len (pda_cons (pd_var 2) pda_nil)) pda_nil))))))))
    (pds_one (pd_ret (pd_frz (pd_var 3))))))
abbrev N_law_free : List Str := ["_law_deck", "_law_letters", "_law_spot"]
theorem sc_law_free : FnScope N_law_free ["_law_deck", "_law_letters"] (defScope (top 12)) := ⟨rfl, rfl, rfl, by decide +kernel, rfl, by decide +kernel, by decide +kernel⟩
def t_law_free (sp_law_next : SpD) (sp_law_free : SpD) : DS := (dSeq (dIf (dB (dOp rEq (dVar 1) (dF (dSz dNil)))) (dRet (dF (dSz dNil))) dNx)
    (dSeq (dSet 2 (dCall sp_law_next (dCons (dVar 0) (dCons (dCB rLenU (dCons (dVar 1) dNil)) dNil))))
    (dRet (dOp rAddU (dOp rAddU (dF (dSz (dCons (dOp rIxU (dVar 1) (dVar 2)) dNil))) (dCall sp_law_free (dCons (dVar 0) (dCons (dSl (dVar 1) dNoPart (dPart (dVar 2))) dNil)))) (dCall sp_law_free (dCons (dVar 0) (dCons (dSl (dVar 1) (dPart (dOp rAddU (dVar 2) (dC (.int 1)))) dNoPart) dNil)))))))
theorem b_law_free {P : Program} {w : World} {K : PySem.W.Frag} {mg : Str → Option Value} {base : Heap} {k : Nat} {f : Addr} {cdv : Value} {A : Around} {outer : List Env} {s : Shared} {H : Hp} {E : XK} (B : Bi mg) (hr : Room k (A.deeper (envOfC "_law_free" (defScope (top 12)) s.heap.objs.size f cdv))) (hgd : (A.deeper (envOfC "_law_free" (defScope (top 12)) s.heap.objs.size f cdv)).guards = some []) {k_law_next : Nat} {sp_law_next : SpD} (D_law_next : Df P w K mg base CX0 k_law_next "_law_next" ["_law_deck", "_law_many"] sp_law_next) (h_law_next : k_law_next ≤ k) {k_law_free : Nat} {sp_law_free : SpD} (D_law_free : Df P w K mg base CX0 k_law_free "_law_free" ["_law_deck", "_law_letters"] sp_law_free) (h_law_free : k_law_free ≤ k) : PDSs (cxOf CX0 P w K mg base N_law_free "_law_free" (defScope (top 12)) f cdv A outer s H E).nox (defBody (top 12)) (t_law_free sp_law_next sp_law_free) :=
  (pds_cons (pd_if (pdt_cmp (od_eq hr.units) (pd_var 1) (pd_F (nl_lst pda_nil)) (nomark _)) (pds_one (pd_ret (pd_F (nl_lst pda_nil)))) pds_nil)
    (pds_cons (pd_set (i := 2) sc_law_free.nd rfl (Or.inl rfl) (pd_call D_law_next (hr.mono h_law_next) hgd rfl (pda_cons (pd_var 0) (pda_cons (pd_callB cd_len rfl B.len bb_len (pda_cons (pd_var 1) pda_nil)) pda_nil))))
    (pds_one (pd_ret (pd_add (pd_add (pd_F (nl_lst (pda_cons (pd_ix (pd_var 1) (pd_var 2) (fun _ _ => rfl)) pda_nil))) (pd_call D_law_free (hr.mono h_law_free) hgd rfl (pda_cons (pd_var 0) (pda_cons (pd_sl (pd_var 1) pdo_none (pdo_some (pd_var 2))) pda_nil)))) (pd_call D_law_free (hr.mono h_law_free) hgd rfl (pda_cons (pd_var 0) (pda_cons (pd_sl (pd_var 1) (pdo_some (pd_add (pd_var 2) pd_int)) pdo_none) pda_nil))))))))
abbrev N_law_order : List Str := ["_law_deck", "_law_low", "_law_high", "_law_size", "_law_way", "_law_letters"]
theorem sc_law_order : FnScope N_law_order ["_law_deck", "_law_low", "_law_high"] (defScope (top 13)) := ⟨rfl, rfl, rfl, by decide +kernel, rfl, by decide +kernel, by decide +kernel⟩
def t_law_order (sp_law_next : SpD) (sp_law_mixed : SpD) (sp_law_free : SpD) : DS := (dSeq (dPar 3 4 (dCons (dOp rAddU (dVar 1) (dCall sp_law_next (dCons (dVar 0) (dCons (dOp rAddU (dOp rSub (dVar 2) (dVar 1)) (dC (.int 1))) dNil)))) (dCons (dCall sp_law_next (dCons (dVar 0) (dCons (dC (.int 4)) dNil))) dNil)))
    (dSeq (dSet 5 (dF (dCN rSortS (dCons (dSl (dCall sp_law_mixed (dCons (dVar 0) (dCons (dF (dCN rListU (dCons (dC (.str "abcdefghijklmnopqrstuvwxyz")) dNil))) dNil))) dNoPart (dPart (dVar 3))) dNil))))
    (dSeq (dIf (dB (dOp rEq (dVar 4) (dC (.int 0)))) (dSet 5 (dCall sp_law_mixed (dCons (dVar 0) (dCons (dVar 5) dNil)))) dNx)
    (dSeq (dIf (dB (dOp rEq (dVar 4) (dC (.int 1)))) (dSet 5 (dRev (dVar 5))) dNx)
    (dSeq (dIf (dB (dOp rEq (dVar 4) (dC (.int 2)))) (dSet 5 (dCall sp_law_free (dCons (dVar 0) (dCons (dVar 5) dNil)))) dNx)
    (dRet (dJoin (dC (.str "")) (dVar 5))))))))
theorem b_law_order {P : Program} {w : World} {K : PySem.W.Frag} {mg : Str → Option Value} {base : Heap} {k : Nat} {f : Addr} {cdv : Value} {A : Around} {outer : List Env} {s : Shared} {H : Hp} {E : XK} (B : Bi mg) (hr : Room k (A.deeper (envOfC "_law_order" (defScope (top 13)) s.heap.objs.size f cdv))) (hgd : (A.deeper (envOfC "_law_order" (defScope (top 13)) s.heap.objs.size f cdv)).guards = some []) {k_law_next : Nat} {sp_law_next : SpD} (D_law_next : Df P w K mg base CX0 k_law_next "_law_next" ["_law_deck", "_law_many"] sp_law_next) (h_law_next : k_law_next ≤ k) {k_law_mixed : Nat} {sp_law_mixed : SpD} (D_law_mixed : Df P w K mg base CX0 k_law_mixed "_law_mixed" ["_law_deck", "_law_items"] sp_law_mixed) (h_law_mixed : k_law_mixed ≤ k) {k_law_free : Nat} {sp_law_free : SpD} (D_law_free : Df P w K mg base CX0 k_law_free "_law_free" ["_law_deck", "_law_letters"] sp_law_free) (h_law_free : k_law_free ≤ k) : PDSs (cxOf CX0 P w K mg base N_law_order "_law_order" (defScope (top 13)) f cdv A outer s H E).nox (defBody (top 13)) (t_law_order sp_law_next sp_law_mixed sp_law_free) :=
  (pds_cons (pd_par (i := 3) (j := 4) rfl sc_law_order.nd rfl rfl (by decide) rfl rfl (pda_cons (pd_add (pd_var 1) (pd_call D_law_next (hr.mono h_law_next) hgd rfl (pda_cons (pd_var 0) (pda_cons (pd_add (pd_op od_sub (pd_var 2) (pd_var 1)) pd_int) pda_nil)))) (pda_cons (pd_call D_law_next (hr.mono h_law_next) hgd rfl (pda_cons (pd_var 0) (pda_cons pd_int pda_nil))) pda_nil)))
    (pds_cons (pd_set (i := 5) sc_law_order.nd rfl (Or.inl rfl) (pd_F (nl_callB cd_sortS rfl B.sorted bb_sorted (pda_cons (pd_sl (pd_call D_law_mixed (hr.mono h_law_mixed) hgd rfl (pda_cons (pd_var 0) (pda_cons (pd_F (nl_callTy (cd_list rfl) rfl B.list bb_list (pda_cons pd_str pda_nil))) pda_nil))) pdo_none (pdo_some (pd_var 3))) pda_nil))))
    (pds_cons (pd_if (pdt_cmp (od_eq hr.units) (pd_var 4) pd_int (nomark _)) (pds_one (pd_set (i := 5) sc_law_order.nd rfl (Or.inl rfl) (pd_call D_law_mixed (hr.mono h_law_mixed) hgd rfl (pda_cons (pd_var 0) (pda_cons (pd_var 5) pda_nil))))) pds_nil)
    (pds_cons (pd_if (pdt_cmp (od_eq hr.units) (pd_var 4) pd_int (nomark _)) (pds_one (pd_set (i := 5) sc_law_order.nd rfl (Or.inl rfl) (pd_rev (pd_var 5)))) pds_nil)
    (pds_cons (pd_if (pdt_cmp (od_eq hr.units) (pd_var 4) pd_int (nomark _)) (pds_one (pd_set (i := 5) sc_law_order.nd rfl (Or.inl rfl) (pd_call D_law_free (hr.mono h_law_free) hgd rfl (pda_cons (pd_var 0) (pda_cons (pd_var 5) pda_nil))))) pds_nil)
    (pds_one (pd_ret (pd_join pd_str (pd_var 5)))))))))
abbrev N_law_put : List Str := ["_law_tree", "_law_letter", "_law_left", "_law_own", "_law_right"]
theorem sc_law_put : FnScope N_law_put ["_law_tree", "_law_letter"] (defScope (top 14)) := ⟨rfl, rfl, rfl, by decide +kernel, rfl, by decide +kernel, by decide +kernel⟩
def t_law_put (sp_law_put : SpD) : DS := (dSeq (dIf (dB (dOp rIs (dVar 0) (dC .non))) (dRet (dTup (dCons (dC .non) (dCons (dVar 1) (dCons (dC .non) dNil))))) dNx)
    (dSeq (dAsg (dVar 0) (dgT 3 (dgCons (dgN 2) (dgCons (dgN 3) (dgCons (dgN 4) dgNil)))))
    (dSeq (dIf (dB (dOp rLt (dVar 1) (dVar 3))) (dRet (dTup (dCons (dCall sp_law_put (dCons (dVar 2) (dCons (dVar 1) dNil))) (dCons (dVar 3) (dCons (dVar 4) dNil))))) dNx)
    (dRet (dTup (dCons (dVar 2) (dCons (dVar 3) (dCons (dCall sp_law_put (dCons (dVar 4) (dCons (dVar 1) dNil))) dNil))))))))
theorem b_law_put {P : Program} {w : World} {K : PySem.W.Frag} {mg : Str → Option Value} {base : Heap} {k : Nat} {f : Addr} {cdv : Value} {A : Around} {outer : List Env} {s : Shared} {H : Hp} {E : XK} (B : Bi mg) (hr : Room k (A.deeper (envOfC "_law_put" (defScope (top 14)) s.heap.objs.size f cdv))) (hgd : (A.deeper (envOfC "_law_put" (defScope (top 14)) s.heap.objs.size f cdv)).guards = some []) {k_law_put : Nat} {sp_law_put : SpD} (D_law_put : Df P w K mg base CX0 k_law_put "_law_put" ["_law_tree", "_law_letter"] sp_law_put) (h_law_put : k_law_put ≤ k) : PDSs (cxOf CX0 P w K mg base N_law_put "_law_put" (defScope (top 14)) f cdv A outer s H E).nox (defBody (top 14)) (t_law_put sp_law_put) :=
  (pds_cons (pd_if (pdt_cmp od_is (pd_var 0) pd_non (nomark _)) (pds_one (pd_ret (pd_tup (pda_cons pd_non (pda_cons (pd_var 1) (pda_cons pd_non pda_nil)))))) pds_nil)
    (pds_cons (pd_asg (pd_var 0) (pdg_tup rfl (pdgs_cons (pdg_name (i := 2) sc_law_put.nd rfl (Or.inl rfl)) (pdgs_cons (pdg_name (i := 3) sc_law_put.nd rfl (Or.inl rfl)) (pdgs_cons (pdg_name (i := 4) sc_law_put.nd rfl (Or.inl rfl)) pdgs_nil)))))
    (pds_cons (pd_if (pdt_cmp od_lt (pd_var 1) (pd_var 3) (nomark _)) (pds_one (pd_ret (pd_tup (pda_cons (pd_call D_law_put (hr.mono h_law_put) hgd rfl (pda_cons (pd_var 2) (pda_cons (pd_var 1) pda_nil))) (pda_cons (pd_var 3) (pda_cons (pd_var 4) pda_nil)))))) pds_nil)
    (pds_one (pd_ret (pd_tup (pda_cons (pd_var 2) (pda_cons (pd_var 3) (pda_cons (pd_call D_law_put (hr.mono h_law_put) hgd rfl (pda_cons (pd_var 4) (pda_cons (pd_var 1) pda_nil))) pda_nil)))))))))
abbrev N_law_grown : List Str := ["_law_order_here", "_law_tree", "_law_letter"]
theorem sc_law_grown : FnScope N_law_grown ["_law_order_here"] (defScope (top 15)) := ⟨rfl, rfl, rfl, by decide +kernel, rfl, by decide +kernel, by decide +kernel⟩
def t_law_grown (sp_law_put : SpD) : DS := (dSeq (dSet 1 (dC .non))
    (dSeq (dFor (dIt (dVar 0)) (dgN 2) (dSet 1 (dCall sp_law_put (dCons (dVar 1) (dCons (dVar 2) dNil)))))
    (dRet (dVar 1))))
theorem b_law_grown {P : Program} {w : World} {K : PySem.W.Frag} {mg : Str → Option Value} {base : Heap} {k : Nat} {f : Addr} {cdv : Value} {A : Around} {outer : List Env} {s : Shared} {H : Hp} {E : XK} (B : Bi mg) (hr : Room k (A.deeper (envOfC "_law_grown" (defScope (top 15)) s.heap.objs.size f cdv))) (hgd : (A.deeper (envOfC "_law_grown" (defScope (top 15)) s.heap.objs.size f cdv)).guards = some []) {k_law_put : Nat} {sp_law_put : SpD} (D_law_put : Df P w K mg base CX0 k_law_put "_law_put" ["_law_tree", "_law_letter"] sp_law_put) (h_law_put : k_law_put ≤ k) : PDSs (cxOf CX0 P w K mg base N_law_grown "_law_grown" (defScope (top 15)) f cdv A outer s H E).nox (defBody (top 15)) (t_law_grown sp_law_put) :=
  (pds_cons (pd_set (i := 1) sc_law_grown.nd rfl (Or.inl rfl) pd_non)
    (pds_cons (pd_for PassesOwn.never rfl (pdi_it (pd_var 0)) (pdg_name (i := 2) sc_law_grown.nd rfl (Or.inl rfl)) (pds_one (pd_set (i := 1) sc_law_grown.nd rfl (Or.inl rfl) (pd_call D_law_put (hr.mono h_law_put) hgd rfl (pda_cons (pd_var 1) (pda_cons (pd_var 2) pda_nil))))))
    (pds_one (pd_ret (pd_var 1)))))
abbrev N_law_ahead : List Str := ["_law_tree", "_law_left", "_law_own", "_law_right"]
theorem sc_law_ahead : FnScope N_law_ahead ["_law_tree"] (defScope (top 16)) := ⟨rfl, rfl, rfl, by decide +kernel, rfl, by decide +kernel, by decide +kernel⟩
def t_law_ahead (sp_law_ahead : SpD) : DS := (dSeq (dIf (dB (dOp rIs (dVar 0) (dC .non))) (dRet (dC (.str ""))) dNx)
    (dSeq (dAsg (dVar 0) (dgT 3 (dgCons (dgN 1) (dgCons (dgN 2) (dgCons (dgN 3) dgNil)))))
    (dRet (dOp rAddU (dOp rAddU (dVar 2) (dCall sp_law_ahead (dCons (dVar 1) dNil))) (dCall sp_law_ahead (dCons (dVar 3) dNil))))))
theorem b_law_ahead {P : Program} {w : World} {K : PySem.W.Frag} {mg : Str → Option Value} {base : Heap} {k : Nat} {f : Addr} {cdv : Value} {A : Around} {outer : List Env} {s : Shared} {H : Hp} {E : XK} (B : Bi mg) (hr : Room k (A.deeper (envOfC "_law_ahead" (defScope (top 16)) s.heap.objs.size f cdv))) (hgd : (A.deeper (envOfC "_law_ahead" (defScope (top 16)) s.heap.objs.size f cdv)).guards = some []) {k_law_ahead : Nat} {sp_law_ahead : SpD} (D_law_ahead : Df P w K mg base CX0 k_law_ahead "_law_ahead" ["_law_tree"] sp_law_ahead) (h_law_ahead : k_law_ahead ≤ k) : PDSs (cxOf CX0 P w K mg base N_law_ahead "_law_ahead" (defScope (top 16)) f cdv A outer s H E).nox (defBody (top 16)) (t_law_ahead sp_law_ahead) :=
  (pds_cons (pd_if (pdt_cmp od_is (pd_var 0) pd_non (nomark _)) (pds_one (pd_ret pd_str)) pds_nil)
    (pds_cons (pd_asg (pd_var 0) (pdg_tup rfl (pdgs_cons (pdg_name (i := 1) sc_law_ahead.nd rfl (Or.inl rfl)) (pdgs_cons (pdg_name (i := 2) sc_law_ahead.nd rfl (Or.inl rfl)) (pdgs_cons (pdg_name (i := 3) sc_law_ahead.nd rfl (Or.inl rfl)) pdgs_nil)))))
    (pds_one (pd_ret (pd_add (pd_add (pd_var 2) (pd_call D_law_ahead (hr.mono h_law_ahead) hgd rfl (pda_cons (pd_var 1) pda_nil))) (pd_call D_law_ahead (hr.mono h_law_ahead) hgd rfl (pda_cons (pd_var 3) pda_nil)))))))
abbrev N_law_all : List Str := ["_law_letters", "_law_found", "_law_letter", "_law_longer", "_law_order_here", "_law_k"]
theorem sc_law_all : FnScope N_law_all ["_law_letters"] (defScope (top 17)) := ⟨rfl, rfl, rfl, by decide +kernel, rfl, by decide +kernel, by decide +kernel⟩
def t_law_all : DS := (dSeq (dSet 1 (dF (dSz (dCons (dC (.str "")) dNil))))
    (dSeq (dFor (dIt (dVar 0)) (dgN 2) (dSeq (dSet 3 (dM (dSz dNil)))
    (dSeq (dFor (dIt (dVar 1)) (dgN 4) (dExpr (dExtend (dVar 3) (dM (dLc (dRng1 (dCons (dOp rAddU (dCB rLenU (dCons (dVar 4) dNil)) (dC (.int 1))) dNil)) (dgN 5) dYes (dOp rAddU (dOp rAddU (dSl (dVar 4) dNoPart (dPart (dVar 5))) (dVar 2)) (dSl (dVar 4) (dPart (dVar 5)) dNoPart)) [5])))))
    (dSet 1 (dVar 3)))))
    (dRet (dF (dCN rSortA (dCons (dVar 1) dNil))))))
theorem b_law_all {P : Program} {w : World} {K : PySem.W.Frag} {mg : Str → Option Value} {base : Heap} {k : Nat} {f : Addr} {cdv : Value} {A : Around} {outer : List Env} {s : Shared} {H : Hp} {E : XK} (B : Bi mg) (hr : Room k (A.deeper (envOfC "_law_all" (defScope (top 17)) s.heap.objs.size f cdv))) (hgd : (A.deeper (envOfC "_law_all" (defScope (top 17)) s.heap.objs.size f cdv)).guards = some []) : PDSs (cxOf CX0 P w K mg base N_law_all "_law_all" (defScope (top 17)) f cdv A outer s H E).nox (defBody (top 17)) (t_law_all) :=
  (pds_cons (pd_set (i := 1) sc_law_all.nd rfl (Or.inl rfl) (pd_F (nl_lst (pda_cons pd_str pda_nil))))
    (pds_cons (pd_for PassesOwn.never rfl (pdi_it (pd_var 0)) (pdg_name (i := 2) sc_law_all.nd rfl (Or.inr rfl)) (pds_cons (pd_set (i := 3) sc_law_all.nd rfl (Or.inl rfl) (pd_M (nl_lst pda_nil)))
    (pds_cons (pd_for PassesOwn.never rfl (pdi_it (pd_var 1)) (pdg_name (i := 4) sc_law_all.nd rfl (Or.inr rfl)) (pds_one (pd_expr (pd_extend (pd_var 3) (pd_M (nl_lc (own := [("_law_k", 5)]) (gi_name 5) (wi_name (by decide)) rfl sc_law_all.nd (pdi_range1 rfl B.range (pda_cons (pd_add (pd_callB cd_len rfl B.len bb_len (pda_cons (pd_var 4) pda_nil)) pd_int) pda_nil)) (blkOk_by (own := [("_law_k", 5)]) (N := N_law_all) (sc := defScope (top 17)) (by decide +kernel)) (fun _ _ _ _ _ => (pg_name (i := 5) sc_law_all.nd rfl (Or.inl rfl))) (fun _ _ _ _ _ => pdts_nil) (fun _ _ _ _ _ => (pd_add (pd_add (pd_sl (pd_var 4) pdo_none (pdo_some (pd_var 5))) (pd_var 2)) (pd_sl (pd_var 4) (pdo_some (pd_var 5)) pdo_none)))))))))
    (pds_one (pd_set (i := 1) sc_law_all.nd rfl (Or.inl rfl) (pd_var 3))))))
    (pds_one (pd_ret (pd_F (nl_callB cd_sortA rfl B.sorted bb_sorted (pda_cons (pd_var 1) pda_nil)))))))
abbrev N_law_number : List Str := ["_law_tree", "_law_left", "_law_right", "_law_size", "_law_found", "_law_k"]
theorem sc_law_number : FnScope N_law_number ["_law_tree"] (defScope (top 18)) := ⟨rfl, rfl, rfl, by decide +kernel, rfl, by decide +kernel, by decide +kernel⟩
def t_law_number (sp_law_number : SpD) : DS := (dSeq (dIf (dB (dOp rIs (dVar 0) (dC .non))) (dRet (dF (dSz (dCons (dC (.int 0)) (dCons (dC (.int 1)) dNil))))) dNx)
    (dSeq (dPar 1 2 (dCons (dCall sp_law_number (dCons (dOp rIxU (dVar 0) (dC (.int 0))) dNil)) (dCons (dCall sp_law_number (dCons (dOp rIxU (dVar 0) (dC (.int 2))) dNil)) dNil)))
    (dSeq (dPar 3 4 (dCons (dOp rAddU (dOp rIxU (dVar 1) (dC (.int 0))) (dOp rIxU (dVar 2) (dC (.int 0)))) (dCons (dOp rMulU (dOp rIxU (dVar 1) (dC (.int 1))) (dOp rIxU (dVar 2) (dC (.int 1)))) dNil)))
    (dSeq (dFor (dRng1 (dCons (dOp rIxU (dVar 1) (dC (.int 0))) dNil)) (dgN 5) (dSet 4 (dOp rMulU (dVar 4) (dOp rSub (dVar 3) (dVar 5)))))
    (dSeq (dFor (dRng1 (dCons (dOp rIxU (dVar 1) (dC (.int 0))) dNil)) (dgN 5) (dSet 4 (dOp rDiv (dVar 4) (dOp rAddU (dVar 5) (dC (.int 1))))))
    (dRet (dF (dSz (dCons (dOp rAddU (dVar 3) (dC (.int 1))) (dCons (dVar 4) dNil))))))))))
theorem b_law_number {P : Program} {w : World} {K : PySem.W.Frag} {mg : Str → Option Value} {base : Heap} {k : Nat} {f : Addr} {cdv : Value} {A : Around} {outer : List Env} {s : Shared} {H : Hp} {E : XK} (B : Bi mg) (hr : Room k (A.deeper (envOfC "_law_number" (defScope (top 18)) s.heap.objs.size f cdv))) (hgd : (A.deeper (envOfC "_law_number" (defScope (top 18)) s.heap.objs.size f cdv)).guards = some []) {k_law_number : Nat} {sp_law_number : SpD} (D_law_number : Df P w K mg base CX0 k_law_number "_law_number" ["_law_tree"] sp_law_number) (h_law_number : k_law_number ≤ k) : PDSs (cxOf CX0 P w K mg base N_law_number "_law_number" (defScope (top 18)) f cdv A outer s H E).nox (defBody (top 18)) (t_law_number sp_law_number) :=
  (pds_cons (pd_if (pdt_cmp od_is (pd_var 0) pd_non (nomark _)) (pds_one (pd_ret (pd_F (nl_lst (pda_cons pd_int (pda_cons pd_int pda_nil)))))) pds_nil)
    (pds_cons (pd_par (i := 1) (j := 2) rfl sc_law_number.nd rfl rfl (by decide) rfl rfl (pda_cons (pd_call D_law_number (hr.mono h_law_number) hgd rfl (pda_cons (pd_ix (pd_var 0) pd_int (fun _ _ => rfl)) pda_nil)) (pda_cons (pd_call D_law_number (hr.mono h_law_number) hgd rfl (pda_cons (pd_ix (pd_var 0) pd_int (fun _ _ => rfl)) pda_nil)) pda_nil)))
    (pds_cons (pd_par (i := 3) (j := 4) rfl sc_law_number.nd rfl rfl (by decide) rfl rfl (pda_cons (pd_add (pd_ix (pd_var 1) pd_int (fun _ _ => rfl)) (pd_ix (pd_var 2) pd_int (fun _ _ => rfl))) (pda_cons (pd_mul (pd_ix (pd_var 1) pd_int (fun _ _ => rfl)) (pd_ix (pd_var 2) pd_int (fun _ _ => rfl))) pda_nil)))
    (pds_cons (pd_for PassesOwn.never rfl (pdi_range1 rfl B.range (pda_cons (pd_ix (pd_var 1) pd_int (fun _ _ => rfl)) pda_nil)) (pdg_name (i := 5) sc_law_number.nd rfl (Or.inl rfl)) (pds_one (pd_set (i := 4) sc_law_number.nd rfl (Or.inl rfl) (pd_mul (pd_var 4) (pd_op od_sub (pd_var 3) (pd_var 5))))))
    (pds_cons (pd_for PassesOwn.never rfl (pdi_range1 rfl B.range (pda_cons (pd_ix (pd_var 1) pd_int (fun _ _ => rfl)) pda_nil)) (pdg_name (i := 5) sc_law_number.nd rfl (Or.inl rfl)) (pds_one (pd_set (i := 4) sc_law_number.nd rfl (Or.inl rfl) (pd_op od_fdiv (pd_var 4) (pd_add (pd_var 5) pd_int)))))
    (pds_one (pd_ret (pd_F (nl_lst (pda_cons (pd_add (pd_var 3) pd_int) (pda_cons (pd_var 4) pda_nil)))))))))))
abbrev N_law : List Str := ["_law_script", "_law_deck", "_law_turn", "_law_order_here", "_law_tree", "_law_due", "_law_kept", "_law_other"]
theorem sc_law : FnScope N_law ["_law_script"] (defScope (top 19)) := ⟨rfl, rfl, rfl, by decide +kernel, rfl, by decide +kernel, by decide +kernel⟩
def t_law (sp_law_begin : SpD) (sp_law_order : SpD) (sp_law_grown : SpD) (sp_law_all : SpD) (sp_law_same : SpD) (sp_count_orders : SpD) (sp_law_number : SpD) : DS := (dSeq (dSet 1 (dCall sp_law_begin (dCons (dVar 0) dNil)))
    (dSeq (dFor (dRng1 (dCons (dC (.int 4)) dNil)) (dgN 2) (dSeq (dSet 3 (dCall sp_law_order (dCons (dVar 1) (dCons (dC (.int 1)) (dCons (dC (.int 5)) dNil)))))
    (dSeq (dSet 4 (dCall sp_law_grown (dCons (dVar 3) dNil)))
    (dSeq (dSet 5 (dCB rLenU (dCons (dF (dLc (dIt (dCall sp_law_all (dCons (dVar 3) dNil))) (dgN 7) (dB (dOp rEq (dCall sp_law_grown (dCons (dVar 7) dNil)) (dVar 4))) (dVar 7) [7])) dNil)))
    (dIf (dNot (dB (dCall sp_law_same (dCons (dF (dSz (dCons (dCall sp_count_orders (dCons (dVar 4) dNil)) (dCons (dOp rIxU (dCall sp_law_number (dCons (dVar 4) dNil)) (dC (.int 1))) dNil)))) (dCons (dF (dSz (dCons (dVar 5) (dCons (dVar 5) dNil)))) dNil))))) (dRet (dC (.bl false))) dNx)))))
    (dSeq (dFor (dRng1 (dCons (dC (.int 8)) dNil)) (dgN 2) (dSeq (dSet 4 (dCall sp_law_grown (dCons (dCall sp_law_order (dCons (dVar 1) (dCons (dC (.int 1)) (dCons (dC (.int 12)) dNil)))) dNil)))
    (dSeq (dPar 6 5 (dCons (dCB rRepr (dCons (dVar 4) dNil)) (dCons (dOp rIxU (dCall sp_law_number (dCons (dVar 4) dNil)) (dC (.int 1))) dNil)))
    (dIf (dOr (dNot (dB (dCall sp_law_same (dCons (dF (dSz (dCons (dCall sp_count_orders (dCons (dVar 4) dNil)) (dCons (dCall sp_count_orders (dCons (dVar 4) dNil)) dNil)))) (dCons (dF (dSz (dCons (dVar 5) (dCons (dVar 5) dNil)))) dNil))))) (dB (dOp rNe (dCB rRepr (dCons (dVar 4) dNil)) (dVar 6)))) (dRet (dC (.bl false))) dNx))))
    (dRet (dC (.bl true))))))
theorem b_law {P : Program} {w : World} {K : PySem.W.Frag} {mg : Str → Option Value} {base : Heap} {k : Nat} {f : Addr} {cdv : Value} {A : Around} {outer : List Env} {s : Shared} {H : Hp} {E : XK} (B : Bi mg) (hr : Room k (A.deeper (envOfC "law" (defScope (top 19)) s.heap.objs.size f cdv))) (hgd : (A.deeper (envOfC "law" (defScope (top 19)) s.heap.objs.size f cdv)).guards = some []) {k_law_begin : Nat} {sp_law_begin : SpD} (D_law_begin : Df P w K mg base CX0 k_law_begin "_law_begin" ["_law_script"] sp_law_begin) (h_law_begin : k_law_begin ≤ k) {k_law_order : Nat} {sp_law_order : SpD} (D_law_order : Df P w K mg base CX0 k_law_order "_law_order" ["_law_deck", "_law_low", "_law_high"] sp_law_order) (h_law_order : k_law_order ≤ k) {k_law_grown : Nat} {sp_law_grown : SpD} (D_law_grown : Df P w K mg base CX0 k_law_grown "_law_grown" ["_law_order_here"] sp_law_grown) (h_law_grown : k_law_grown ≤ k) {k_law_all : Nat} {sp_law_all : SpD} (D_law_all : Df P w K mg base CX0 k_law_all "_law_all" ["_law_letters"] sp_law_all) (h_law_all : k_law_all ≤ k) {k_law_same : Nat} {sp_law_same : SpD} (D_law_same : Df P w K mg base CX0 k_law_same "_law_same" ["_law_found", "_law_due"] sp_law_same) (h_law_same : k_law_same ≤ k) {k_count_orders : Nat} {sp_count_orders : SpD} (D_count_orders : Df P w K mg base CX0 k_count_orders "count_orders" ["tree"] sp_count_orders) (h_count_orders : k_count_orders ≤ k) {k_law_number : Nat} {sp_law_number : SpD} (D_law_number : Df P w K mg base CX0 k_law_number "_law_number" ["_law_tree"] sp_law_number) (h_law_number : k_law_number ≤ k) : PDSs (cxOf CX0 P w K mg base N_law "law" (defScope (top 19)) f cdv A outer s H E).nox (defBody (top 19)) (t_law sp_law_begin sp_law_order sp_law_grown sp_law_all sp_law_same sp_count_orders sp_law_number) :=
  (pds_cons (pd_set (i := 1) sc_law.nd rfl (Or.inl rfl) (pd_call D_law_begin (hr.mono h_law_begin) hgd rfl (pda_cons (pd_var 0) pda_nil)))
    (pds_cons (pd_for PassesOwn.never rfl (pdi_range1 rfl B.range (pda_cons pd_int pda_nil)) (pdg_name (i := 2) sc_law.nd rfl (Or.inl rfl)) (pds_cons (pd_set (i := 3) sc_law.nd rfl (Or.inl rfl) (pd_call D_law_order (hr.mono h_law_order) hgd rfl (pda_cons (pd_var 1) (pda_cons pd_int (pda_cons pd_int pda_nil)))))
    (pds_cons (pd_set (i := 4) sc_law.nd rfl (Or.inr rfl) (pd_call D_law_grown (hr.mono h_law_grown) hgd rfl (pda_cons (pd_var 3) pda_nil)))
    (pds_cons (pd_set (i := 5) sc_law.nd rfl (Or.inl rfl) (pd_callB cd_len rfl B.len bb_len (pda_cons (pd_F (nl_lc (own := [("_law_other", 7)]) (gi_name 7) (wi_name (by decide)) rfl sc_law.nd (pdi_it (pd_call D_law_all (hr.mono h_law_all) hgd rfl (pda_cons (pd_var 3) pda_nil))) (blkOk_by (own := [("_law_other", 7)]) (N := N_law) (sc := defScope (top 19)) (by decide +kernel)) (fun _ _ _ _ _ => (pg_name (i := 7) sc_law.nd rfl (Or.inl rfl))) (fun _ _ _ _ _ => (pdts_one (pdt_cmp (od_eq hr.units) (pd_call D_law_grown (hr.mono h_law_grown) hgd rfl (pda_cons (pd_var 7) pda_nil)) (pd_var 4) (nomark _)))) (fun _ _ _ _ _ => (pd_var 7)))) pda_nil)))
    (pds_one (pd_if (pdt_not (pdt_val (pd_call D_law_same (hr.mono h_law_same) hgd rfl (pda_cons (pd_F (nl_lst (pda_cons (pd_call D_count_orders (hr.mono h_count_orders) hgd rfl (pda_cons (pd_var 4) pda_nil)) (pda_cons (pd_ix (pd_call D_law_number (hr.mono h_law_number) hgd rfl (pda_cons (pd_var 4) pda_nil)) pd_int (fun _ _ => rfl)) pda_nil)))) (pda_cons (pd_F (nl_lst (pda_cons (pd_var 5) (pda_cons (pd_var 5) pda_nil)))) pda_nil))))) (pds_one (pd_ret pd_bl)) pds_nil))))))
    (pds_cons (pd_for PassesOwn.never rfl (pdi_range1 rfl B.range (pda_cons pd_int pda_nil)) (pdg_name (i := 2) sc_law.nd rfl (Or.inl rfl)) (pds_cons (pd_set (i := 4) sc_law.nd rfl (Or.inr rfl) (pd_call D_law_grown (hr.mono h_law_grown) hgd rfl (pda_cons (pd_call D_law_order (hr.mono h_law_order) hgd rfl (pda_cons (pd_var 1) (pda_cons pd_int (pda_cons pd_int pda_nil)))) pda_nil)))
    (pds_cons (pd_par (i := 6) (j := 5) rfl sc_law.nd rfl rfl (by decide) rfl rfl (pda_cons (pd_callB (cd_repr hr hgd) rfl B.repr bb_repr (pda_cons (pd_var 4) pda_nil)) (pda_cons (pd_ix (pd_call D_law_number (hr.mono h_law_number) hgd rfl (pda_cons (pd_var 4) pda_nil)) pd_int (fun _ _ => rfl)) pda_nil)))
    (pds_one (pd_if (pdw_t (pdw_or (pdt_not (pdt_val (pd_call D_law_same (hr.mono h_law_same) hgd rfl (pda_cons (pd_F (nl_lst (pda_cons (pd_call D_count_orders (hr.mono h_count_orders) hgd rfl (pda_cons (pd_var 4) pda_nil)) (pda_cons (pd_call D_count_orders (hr.mono h_count_orders) hgd rfl (pda_cons (pd_var 4) pda_nil)) pda_nil)))) (pda_cons (pd_F (nl_lst (pda_cons (pd_var 5) (pda_cons (pd_var 5) pda_nil)))) pda_nil))))) (pdw_or1 (pdt_cmp (od_ne hr.units) (pd_callB (cd_repr hr hgd) rfl B.repr bb_repr (pda_cons (pd_var 4) pda_nil)) (pd_var 6) (nomark _))))) (pds_one (pd_ret pd_bl)) pds_nil)))))
    (pds_one (pd_ret pd_bl)))))
end Pr
namespace Pr
open PySem PySem.Spec PyProof.Rows L2 Dz
def s0 : Sg := ⟨fun _ => none, 1000000000000, []⟩
/-- the deck: great numbers, a mixed one, a count -/
def DkJ (n : Nat) (st : Bx) : Prop := ∃ (gs : List Int) (w c : Int), st = [.inr gs, .inl w, .inl c] ∧ gs.length ≤ 1000 ∧ 0 ≤ w ∧ w < 2305843009213693951 ∧ 0 ≤ c ∧ c + n ≤ 1000000000000
def Db (s : Sg) (p : Addr) : Prop := s.M p = some (.box DkJ)
theorem Db.neN {s : Sg} {p q : Addr} (h : Db s p) (g : s.M q = none) : p ≠ q := fun z => by subst z; rw [show s.M p = _ from h] at g; cases g
theorem Db.put {s : Sg} {p q : Addr} {o : MO} (h : Db s p) (g : p ≠ q) : Db (s.put q o) p := (Mm.put_ne g).trans h
theorem Db.ov {s s' : Sg} {j : Nat} {p : Addr} (h : Ov s s' j) (hp : Db s p) : Db s' p := h.m _ _ hp
def spNextB : SpD := fun ws s R _ => ∃ (p : Addr) (m : Int), ws = [.ref p, .int m] ∧ Db s p ∧ 0 < m ∧ m < 1000000 ∧ 1 ≤ s.n ∧ ∀ r : Int, 0 ≤ r → r < m → R (.int r) (spend s 1)
theorem spNextB_iff {p : Addr} {m : Int} {s : Sg} {R : KD} {E : XD} : spNextB [.ref p, .int m] s R E ↔ Db s p ∧ 0 < m ∧ m < 1000000 ∧ 1 ≤ s.n ∧ ∀ r : Int, 0 ≤ r → r < m → R (.int r) (spend s 1) := by
  constructor
  · rintro ⟨q, m', e, h⟩
    simp only [List.cons.injEq, D.ref.injEq, D.int.injEq, and_true] at e
    rw [e.1, e.2]
    exact h
  · exact fun h => ⟨p, m, rfl, h⟩
theorem nextB_fin {M M' : Mm} {n k : Nat} {p a : Addr} {gs : List Int} {w c c' r m : Int} {R : KD} (hb : M p = some (.box DkJ)) (hn : 1 ≤ n) (hk : n ≤ k) (hl : gs.length ≤ 1000) (hw0 : 0 ≤ w) (hw1 : w < 2305843009213693951) (hc0 : 0 ≤ c) (hc1 : c + k ≤ 1000000000000) (hc2 : c' = c ∨ c' = c + 1)
    (np : p ≠ a) (hv : M a = none) (one : ∀ x y I J, M x = some (.box I) → M y = some (.box J) → x = y)
    (m1 : M' p = some (.lst [.ref a, .int w, .int c'])) (m2 : M' a = some (.lst (gs.map D.int))) (m4 : ∀ q, q ≠ p → q ≠ a → M' q = M q)
    (hR : ∀ r : Int, 0 ≤ r → r < m → R (.int r) (spend ⟨M, n, [a]⟩ 1)) (h0 : 0 ≤ r) (h1 : r < m) : Lw R (.int r) ⟨M', n, []⟩ := by
  refine ⟨_, ?_, hR r h0 h1⟩
  refine box_close (st := [.inr gs, .inl w, .inl c']) (k := n - 1) ⟨gs, w, c', rfl, hl, hw0, hw1, by omega, by omega⟩ (Nat.le_refl _) m1 ⟨m2, rfl⟩ ?_ ?_ rfl hb (fun q hq => ?_) (fun q o hq hm => ⟨?_, fun J e => ?_⟩)
  · simp [spend]
  · simp [spend, np]
  · rw [show q = a by simpa [spend] using hq]; exact hv
  · have nqa : q ≠ a := fun e => by subst e; rw [show (spend ⟨M, n, [q]⟩ 1).M q = M q from rfl, hv] at hm; cases hm
    rw [← hm]; exact m4 q hq nqa
  · subst e
    exact hq (one q p J DkJ hm hb)
theorem e_law_next : ∀ ws s R, spNextB ws s R X0 → ws.length = 2 ∧ ∀ K H, MRep K H s → ∃ s1, MRep K H s1 ∧ Stp H s H s1 ∧ t_law_next { nx := fun _ s' => Lw R .non s', rt := Lw R } (Dz.startD N_law_next ws) s1 := by
  rintro ws s R ⟨p, m, rfl, hb, h0, h1, hn, hR⟩
  refine ⟨rfl, fun K H mr => ?_⟩
  obtain ⟨st, ⟨k, hk, hI⟩, nd, np, hv, ra, mr1, st1⟩ := box_open mr hb
  obtain ⟨gs, w, c, rfl, hl, hw0, hw1, hc0, hc1⟩ := hI
  have one := mr.one
  obtain ⟨M, n, pv⟩ := s
  simp only at hb hk hv nd np ra mr1 st1 hn hR one
  match pv, ra with
  | [a], ra =>
    have np1 : p ≠ a := by simpa using np
    refine ⟨_, mr1, st1, ?_⟩
    have hva := hv a (by simp)
    have j0 : L2.atI [D.ref a, .int w, .int c] 0 = some (.ref a) := rfl
    have j2 : L2.atI [D.ref a, .int w, .int c] 2 = some (.int c) := rfl
    have k1 : L2.atI [D.ref a, .int w, .int (c + 1)] 1 = some (.int w) := rfl
    have k2 : L2.atI [D.ref a, .int w, .int (c + 1)] 2 = some (.int (c + 1)) := rfl
    have i2 : ixN 3 2 = some 2 := rfl
    have hmn : ∀ z : Int, 0 ≤ z % m ∧ z % m < m := fun z => ⟨Int.emod_nonneg _ (by omega), Int.emod_lt_of_pos _ h0⟩
    simp only [Dz.dSeq, Dz.dIf, Dz.dB, Dz.dOp, Dz.dUn, Dz.dVar, Dz.dC, Dz.dRet, Dz.dRetN, Dz.dNx, Dz.dBrk, Dz.dCnt, Dz.dAsg, Dz.dSet, Dz.dPar, Dz.dPar3, Dz.dgT, Dz.dgTt, Dz.dgCons, Dz.dgNil, Dz.dgN, Dz.dCall, Dz.dCons, Dz.dNil, Dz.dTup, Dz.dCB, Dz.dCN, Dz.dF, Dz.dM, Dz.dSz, Dz.dExpr, Dz.dNot, Dz.dAnd, Dz.dOr, Dz.dAndV, Dz.dOrV, Dz.dNotV, Dz.dIfE, Dz.dChain, Dz.dFrz, Dz.dIt, Dz.dRng1, Dz.dRng2, Dz.dSl, Dz.dNoPart, Dz.dPart, Dz.dCat, Dz.dRep, Dz.dLc, Dz.dFor, Dz.dAppend, Dz.dPop, Dz.dPopAt, Dz.rPopAtD, Dz.dSetIx, Dz.dYes, Dz.dRev, Dz.asI, Dz.asQ, Dz.asL, Dz.rIsN, Dz.rIs, Dz.rIsNot, Dz.isNon_d, Dz.isNon_non, Dz.isNon_tup, Dz.isNon_lst, Dz.isNon_str, Dz.isNon_int, Dz.isNon_bl, Dz.isNon_ref, Dz.isNon_dic, Dz.isNon_ty, Dz.rAddU, Dz.rSub, Dz.rMod, Dz.rDiv, Dz.rPow, Dz.rLt, Dz.rLe, Dz.rGt, Dz.rGe, Dz.rEq, Dz.rNe, Dz.rEqv, Dz.rInt2, Dz.rMax2, Dz.rMin2, Dz.rI, Dz.rCmp, Dz.rIxU, Dz.rAbs, Dz.rToInt, Dz.rListU, Dz.rSlU, Dz.trk, Dz.rLenU, Dz.rMulU, Dz.rNeg, Dz.startD, Dz.wipeD, Dz.Tr.d, Dz.Sg.put_M, Dz.Sg.put_n, Dz.Sg.put_pv, Dz.Sg.del_M, Dz.Sg.del_n, Dz.Sg.del_pv, Dz.Mm.put_same, Dz.Mm.put_put, Dz.Sg.put_put, Dz.Mm.put_ne, Dz.Mm.del_ne, Dz.rIsi, Dz.tyN, Dz.tyNames, Dz.isiT, Dz.subT, Dz.tyOk, Dz.tyNames, Dz.pyOf, Dz.toPy, Dz.toPys, Dz.Sg.put_mk, Dz.Sg.del_mk, Dz.spend_M, Dz.spend_pv, Dz.spend_n, Dz.spend_spend, Dz.spend_put, Dz.spend_del, Dz.spNext_iff, Dz.asI_lst, Dz.asI_tup, Dz.dFJ, Dz.dJs, Dz.dFmt, Dz.Tr.isNil, List.map_cons, List.map_nil, List.length_cons, List.length_nil, List.length_map, List.length_set, List.replicate, Nat.reduceSub, Nat.reduceAdd, List.cons_append, List.nil_append, List.getElem?_cons_zero, List.getElem?_cons_succ, List.set_cons_zero, List.set_cons_succ, if_true, if_false, Bool.false_eq_true, id, Nat.sub_zero, Bool.not_true, Bool.not_false, true_and, and_true, ne_eq, not_false_eq_true, not_true_eq_false, reduceCtorEq, Option.map_some, Option.bind_some, String.reduceBEq, Bool.or_false, Bool.or_true, Bool.false_or, Bool.true_or, Bool.and_true, Bool.and_false, Bool.true_and, Bool.false_and, decide_true, decide_false, List.all_cons, List.all_nil, List.any_cons, List.any_nil, beq_self_eq_true, t_law_next, rawM, rawV]
    refine while_of (fun k env s' => ∃ (gs : List Int) (e2 : Option D), env = [some (.ref p), some (.int m), e2, none] ∧ gs.length = k ∧ gs.length ≤ 1000 ∧ s' = ⟨(M.put a (.lst (gs.map D.int))).put p (.lst [.ref a, .int w, .int c]), n, []⟩) gs.length ⟨gs, none, rfl, rfl, hl, rfl⟩ ?_
    rintro t env s' N ⟨gs, e2, rfl, ht, hl, rfl⟩ hN
    simp only [Dz.dSeq, Dz.dIf, Dz.dB, Dz.dOp, Dz.dUn, Dz.dVar, Dz.dC, Dz.dRet, Dz.dRetN, Dz.dNx, Dz.dBrk, Dz.dCnt, Dz.dAsg, Dz.dSet, Dz.dPar, Dz.dPar3, Dz.dgT, Dz.dgTt, Dz.dgCons, Dz.dgNil, Dz.dgN, Dz.dCall, Dz.dCons, Dz.dNil, Dz.dTup, Dz.dCB, Dz.dCN, Dz.dF, Dz.dM, Dz.dSz, Dz.dExpr, Dz.dNot, Dz.dAnd, Dz.dOr, Dz.dAndV, Dz.dOrV, Dz.dNotV, Dz.dIfE, Dz.dChain, Dz.dFrz, Dz.dIt, Dz.dRng1, Dz.dRng2, Dz.dSl, Dz.dNoPart, Dz.dPart, Dz.dCat, Dz.dRep, Dz.dLc, Dz.dFor, Dz.dAppend, Dz.dPop, Dz.dPopAt, Dz.rPopAtD, Dz.dSetIx, Dz.dYes, Dz.dRev, Dz.asI, Dz.asQ, Dz.asL, Dz.rIsN, Dz.rIs, Dz.rIsNot, Dz.isNon_d, Dz.isNon_non, Dz.isNon_tup, Dz.isNon_lst, Dz.isNon_str, Dz.isNon_int, Dz.isNon_bl, Dz.isNon_ref, Dz.isNon_dic, Dz.isNon_ty, Dz.rAddU, Dz.rSub, Dz.rMod, Dz.rDiv, Dz.rPow, Dz.rLt, Dz.rLe, Dz.rGt, Dz.rGe, Dz.rEq, Dz.rNe, Dz.rEqv, Dz.rInt2, Dz.rMax2, Dz.rMin2, Dz.rI, Dz.rCmp, Dz.rIxU, Dz.rAbs, Dz.rToInt, Dz.rListU, Dz.rSlU, Dz.trk, Dz.rLenU, Dz.rMulU, Dz.rNeg, Dz.startD, Dz.wipeD, Dz.Tr.d, Dz.Sg.put_M, Dz.Sg.put_n, Dz.Sg.put_pv, Dz.Sg.del_M, Dz.Sg.del_n, Dz.Sg.del_pv, Dz.Mm.put_same, Dz.Mm.put_put, Dz.Sg.put_put, Dz.Mm.put_ne, Dz.Mm.del_ne, Dz.rIsi, Dz.tyN, Dz.tyNames, Dz.isiT, Dz.subT, Dz.tyOk, Dz.tyNames, Dz.pyOf, Dz.toPy, Dz.toPys, Dz.Sg.put_mk, Dz.Sg.del_mk, Dz.spend_M, Dz.spend_pv, Dz.spend_n, Dz.spend_spend, Dz.spend_put, Dz.spend_del, Dz.spNext_iff, Dz.asI_lst, Dz.asI_tup, Dz.dFJ, Dz.dJs, Dz.dFmt, Dz.Tr.isNil, List.map_cons, List.map_nil, List.length_cons, List.length_nil, List.length_map, List.length_set, List.replicate, Nat.reduceSub, Nat.reduceAdd, List.cons_append, List.nil_append, List.getElem?_cons_zero, List.getElem?_cons_succ, List.set_cons_zero, List.set_cons_succ, if_true, if_false, Bool.false_eq_true, id, Nat.sub_zero, Bool.not_true, Bool.not_false, true_and, and_true, ne_eq, not_false_eq_true, not_true_eq_false, reduceCtorEq, Option.map_some, Option.bind_some, String.reduceBEq, Bool.or_false, Bool.or_true, Bool.false_or, Bool.true_or, Bool.and_true, Bool.and_false, Bool.true_and, Bool.false_and, decide_true, decide_false, List.all_cons, List.all_nil, List.any_cons, List.any_nil, beq_self_eq_true, j0, np1, Ne.symm np1, toPys_ints, shaped_ints, shaped_nil, eqv_nilr]
    refine ⟨by decide, ?_⟩
    split
    · rename_i hne
      have hgl : 0 < gs.length := by
        cases gs with
        | nil => simp at hne
        | cons _ _ => simp
      have e1 : (gs.map D.int)[gs.length - 1]? = some (.int gs[gs.length - 1]) := by simp [show gs.length - 1 < gs.length by omega]
      rw [e1]
      have e2 : (gs.map D.int).dropLast = gs.dropLast.map D.int := by rw [List.dropLast_eq_take, List.dropLast_eq_take, List.map_take, List.length_map]
      have e3 : gs.dropLast.length = gs.length - 1 := by simp
      rw [e2]
      simp only [Dz.dSeq, Dz.dIf, Dz.dB, Dz.dOp, Dz.dUn, Dz.dVar, Dz.dC, Dz.dRet, Dz.dRetN, Dz.dNx, Dz.dBrk, Dz.dCnt, Dz.dAsg, Dz.dSet, Dz.dPar, Dz.dPar3, Dz.dgT, Dz.dgTt, Dz.dgCons, Dz.dgNil, Dz.dgN, Dz.dCall, Dz.dCons, Dz.dNil, Dz.dTup, Dz.dCB, Dz.dCN, Dz.dF, Dz.dM, Dz.dSz, Dz.dExpr, Dz.dNot, Dz.dAnd, Dz.dOr, Dz.dAndV, Dz.dOrV, Dz.dNotV, Dz.dIfE, Dz.dChain, Dz.dFrz, Dz.dIt, Dz.dRng1, Dz.dRng2, Dz.dSl, Dz.dNoPart, Dz.dPart, Dz.dCat, Dz.dRep, Dz.dLc, Dz.dFor, Dz.dAppend, Dz.dPop, Dz.dPopAt, Dz.rPopAtD, Dz.dSetIx, Dz.dYes, Dz.dRev, Dz.asI, Dz.asQ, Dz.asL, Dz.rIsN, Dz.rIs, Dz.rIsNot, Dz.isNon_d, Dz.isNon_non, Dz.isNon_tup, Dz.isNon_lst, Dz.isNon_str, Dz.isNon_int, Dz.isNon_bl, Dz.isNon_ref, Dz.isNon_dic, Dz.isNon_ty, Dz.rAddU, Dz.rSub, Dz.rMod, Dz.rDiv, Dz.rPow, Dz.rLt, Dz.rLe, Dz.rGt, Dz.rGe, Dz.rEq, Dz.rNe, Dz.rEqv, Dz.rInt2, Dz.rMax2, Dz.rMin2, Dz.rI, Dz.rCmp, Dz.rIxU, Dz.rAbs, Dz.rToInt, Dz.rListU, Dz.rSlU, Dz.trk, Dz.rLenU, Dz.rMulU, Dz.rNeg, Dz.startD, Dz.wipeD, Dz.Tr.d, Dz.Sg.put_M, Dz.Sg.put_n, Dz.Sg.put_pv, Dz.Sg.del_M, Dz.Sg.del_n, Dz.Sg.del_pv, Dz.Mm.put_same, Dz.Mm.put_put, Dz.Sg.put_put, Dz.Mm.put_ne, Dz.Mm.del_ne, Dz.rIsi, Dz.tyN, Dz.tyNames, Dz.isiT, Dz.subT, Dz.tyOk, Dz.tyNames, Dz.pyOf, Dz.toPy, Dz.toPys, Dz.Sg.put_mk, Dz.Sg.del_mk, Dz.spend_M, Dz.spend_pv, Dz.spend_n, Dz.spend_spend, Dz.spend_put, Dz.spend_del, Dz.spNext_iff, Dz.asI_lst, Dz.asI_tup, Dz.dFJ, Dz.dJs, Dz.dFmt, Dz.Tr.isNil, List.map_cons, List.map_nil, List.length_cons, List.length_nil, List.length_map, List.length_set, List.replicate, Nat.reduceSub, Nat.reduceAdd, List.cons_append, List.nil_append, List.getElem?_cons_zero, List.getElem?_cons_succ, List.set_cons_zero, List.set_cons_succ, if_true, if_false, Bool.false_eq_true, id, Nat.sub_zero, Bool.not_true, Bool.not_false, true_and, and_true, ne_eq, not_false_eq_true, not_true_eq_false, reduceCtorEq, Option.map_some, Option.bind_some, String.reduceBEq, Bool.or_false, Bool.or_true, Bool.false_or, Bool.true_or, Bool.and_true, Bool.and_false, Bool.true_and, Bool.false_and, decide_true, decide_false, List.all_cons, List.all_nil, List.any_cons, List.any_nil, beq_self_eq_true]
      split
      · refine ⟨⟨h0, by omega⟩, by omega, h0, ?_⟩
        refine nextB_fin (gs := gs.dropLast ++ [gs[gs.length - 1] / m]) (c := c) (w := w) (m := m) hb hn hk (by simp; omega) hw0 hw1 hc0 hc1 (.inl rfl) np1 hva one ?_ ?_ (fun q q1 q2 => ?_) hR (hmn _).1 (hmn _).2
        · simp [Mm.put, np1]
        · simp [Mm.put]
        · simp [Mm.put, q1, q2]
      · refine hN (gs.length - 1) _ _ (by omega) ⟨gs.dropLast, _, rfl, by omega, by omega, ?_⟩
        congr 1
        funext q
        simp only [Mm.put]
        by_cases q1 : q = a
        · subst q1; simp [Ne.symm np1]
        · simp [q1]
    · simp only [Dz.dSeq, Dz.dIf, Dz.dB, Dz.dOp, Dz.dUn, Dz.dVar, Dz.dC, Dz.dRet, Dz.dRetN, Dz.dNx, Dz.dBrk, Dz.dCnt, Dz.dAsg, Dz.dSet, Dz.dPar, Dz.dPar3, Dz.dgT, Dz.dgTt, Dz.dgCons, Dz.dgNil, Dz.dgN, Dz.dCall, Dz.dCons, Dz.dNil, Dz.dTup, Dz.dCB, Dz.dCN, Dz.dF, Dz.dM, Dz.dSz, Dz.dExpr, Dz.dNot, Dz.dAnd, Dz.dOr, Dz.dAndV, Dz.dOrV, Dz.dNotV, Dz.dIfE, Dz.dChain, Dz.dFrz, Dz.dIt, Dz.dRng1, Dz.dRng2, Dz.dSl, Dz.dNoPart, Dz.dPart, Dz.dCat, Dz.dRep, Dz.dLc, Dz.dFor, Dz.dAppend, Dz.dPop, Dz.dPopAt, Dz.rPopAtD, Dz.dSetIx, Dz.dYes, Dz.dRev, Dz.asI, Dz.asQ, Dz.asL, Dz.rIsN, Dz.rIs, Dz.rIsNot, Dz.isNon_d, Dz.isNon_non, Dz.isNon_tup, Dz.isNon_lst, Dz.isNon_str, Dz.isNon_int, Dz.isNon_bl, Dz.isNon_ref, Dz.isNon_dic, Dz.isNon_ty, Dz.rAddU, Dz.rSub, Dz.rMod, Dz.rDiv, Dz.rPow, Dz.rLt, Dz.rLe, Dz.rGt, Dz.rGe, Dz.rEq, Dz.rNe, Dz.rEqv, Dz.rInt2, Dz.rMax2, Dz.rMin2, Dz.rI, Dz.rCmp, Dz.rIxU, Dz.rAbs, Dz.rToInt, Dz.rListU, Dz.rSlU, Dz.trk, Dz.rLenU, Dz.rMulU, Dz.rNeg, Dz.startD, Dz.wipeD, Dz.Tr.d, Dz.Sg.put_M, Dz.Sg.put_n, Dz.Sg.put_pv, Dz.Sg.del_M, Dz.Sg.del_n, Dz.Sg.del_pv, Dz.Mm.put_same, Dz.Mm.put_put, Dz.Sg.put_put, Dz.Mm.put_ne, Dz.Mm.del_ne, Dz.rIsi, Dz.tyN, Dz.tyNames, Dz.isiT, Dz.subT, Dz.tyOk, Dz.tyNames, Dz.pyOf, Dz.toPy, Dz.toPys, Dz.Sg.put_mk, Dz.Sg.del_mk, Dz.spend_M, Dz.spend_pv, Dz.spend_n, Dz.spend_spend, Dz.spend_put, Dz.spend_del, Dz.spNext_iff, Dz.asI_lst, Dz.asI_tup, Dz.dFJ, Dz.dJs, Dz.dFmt, Dz.Tr.isNil, List.map_cons, List.map_nil, List.length_cons, List.length_nil, List.length_map, List.length_set, List.replicate, Nat.reduceSub, Nat.reduceAdd, List.cons_append, List.nil_append, List.getElem?_cons_zero, List.getElem?_cons_succ, List.set_cons_zero, List.set_cons_succ, if_true, if_false, Bool.false_eq_true, id, Nat.sub_zero, Bool.not_true, Bool.not_false, true_and, and_true, ne_eq, not_false_eq_true, not_true_eq_false, reduceCtorEq, Option.map_some, Option.bind_some, String.reduceBEq, Bool.or_false, Bool.or_true, Bool.false_or, Bool.true_or, Bool.and_true, Bool.and_false, Bool.true_and, Bool.false_and, decide_true, decide_false, List.all_cons, List.all_nil, List.any_cons, List.any_nil, beq_self_eq_true, j2, i2, k1, k2]
      have hc3 : c < 1000000000001 := by omega
      refine ⟨cmul_l (by omega) (by omega), cmul_l (by omega) (by omega), cmul_l (by omega) (by omega), by omega, cmul_mod (by omega) (by omega), by omega, cmul_mod (by omega) (by omega), by omega, ⟨by omega, by omega⟩, h0, ?_⟩
      refine nextB_fin (gs := gs) (c := c) (w := w) (m := m) hb hn hk (by omega) hw0 hw1 hc0 hc1 (.inr rfl) np1 hva one ?_ ?_ (fun q q1 q2 => ?_) hR (hmn _).1 (hmn _).2
      · simp [Mm.put]
      · simp [Mm.put, np1.symm]
      · simp [Mm.put, q1, q2]
def spBegin : SpD := fun ws s R _ => s = s0 ∧ ∃ ns : List Int, ws = [.lst (ns.map D.int)] ∧ ns.length ≤ 1000 ∧ ∀ (p : Addr) (s' : Sg), Db s' p → s'.n = 1000000000000 → R (.ref p) s'
theorem e_law_begin : ∀ ws s R, spBegin ws s R X0 → ws.length = 1 ∧ t_law_begin { nx := fun _ s' => Lw R .non s', rt := Lw R } (Dz.startD N_law_begin ws) s := by
  rintro ws s R ⟨rfl, ns, rfl, hl, hR⟩
  refine ⟨rfl, ?_⟩
  simp only [Dz.dSeq, Dz.dIf, Dz.dB, Dz.dOp, Dz.dUn, Dz.dVar, Dz.dC, Dz.dRet, Dz.dRetN, Dz.dNx, Dz.dBrk, Dz.dCnt, Dz.dAsg, Dz.dSet, Dz.dPar, Dz.dPar3, Dz.dgT, Dz.dgTt, Dz.dgCons, Dz.dgNil, Dz.dgN, Dz.dCall, Dz.dCons, Dz.dNil, Dz.dTup, Dz.dCB, Dz.dCN, Dz.dF, Dz.dM, Dz.dSz, Dz.dExpr, Dz.dNot, Dz.dAnd, Dz.dOr, Dz.dAndV, Dz.dOrV, Dz.dNotV, Dz.dIfE, Dz.dChain, Dz.dFrz, Dz.dIt, Dz.dRng1, Dz.dRng2, Dz.dSl, Dz.dNoPart, Dz.dPart, Dz.dCat, Dz.dRep, Dz.dLc, Dz.dFor, Dz.dAppend, Dz.dPop, Dz.dPopAt, Dz.rPopAtD, Dz.dSetIx, Dz.dYes, Dz.dRev, Dz.asI, Dz.asQ, Dz.asL, Dz.rIsN, Dz.rIs, Dz.rIsNot, Dz.isNon_d, Dz.isNon_non, Dz.isNon_tup, Dz.isNon_lst, Dz.isNon_str, Dz.isNon_int, Dz.isNon_bl, Dz.isNon_ref, Dz.isNon_dic, Dz.isNon_ty, Dz.rAddU, Dz.rSub, Dz.rMod, Dz.rDiv, Dz.rPow, Dz.rLt, Dz.rLe, Dz.rGt, Dz.rGe, Dz.rEq, Dz.rNe, Dz.rEqv, Dz.rInt2, Dz.rMax2, Dz.rMin2, Dz.rI, Dz.rCmp, Dz.rIxU, Dz.rAbs, Dz.rToInt, Dz.rListU, Dz.rSlU, Dz.trk, Dz.rLenU, Dz.rMulU, Dz.rNeg, Dz.startD, Dz.wipeD, Dz.Tr.d, Dz.Sg.put_M, Dz.Sg.put_n, Dz.Sg.put_pv, Dz.Sg.del_M, Dz.Sg.del_n, Dz.Sg.del_pv, Dz.Mm.put_same, Dz.Mm.put_put, Dz.Sg.put_put, Dz.Mm.put_ne, Dz.Mm.del_ne, Dz.rIsi, Dz.tyN, Dz.tyNames, Dz.isiT, Dz.subT, Dz.tyOk, Dz.tyNames, Dz.pyOf, Dz.toPy, Dz.toPys, Dz.Sg.put_mk, Dz.Sg.del_mk, Dz.spend_M, Dz.spend_pv, Dz.spend_n, Dz.spend_spend, Dz.spend_put, Dz.spend_del, Dz.spNext_iff, Dz.asI_lst, Dz.asI_tup, Dz.dFJ, Dz.dJs, Dz.dFmt, Dz.Tr.isNil, List.map_cons, List.map_nil, List.length_cons, List.length_nil, List.length_map, List.length_set, List.replicate, Nat.reduceSub, Nat.reduceAdd, List.cons_append, List.nil_append, List.getElem?_cons_zero, List.getElem?_cons_succ, List.set_cons_zero, List.set_cons_succ, if_true, if_false, Bool.false_eq_true, id, Nat.sub_zero, Bool.not_true, Bool.not_false, true_and, and_true, ne_eq, not_false_eq_true, not_true_eq_false, reduceCtorEq, Option.map_some, Option.bind_some, String.reduceBEq, Bool.or_false, Bool.or_true, Bool.false_or, Bool.true_or, Bool.and_true, Bool.and_false, Bool.true_and, Bool.false_and, decide_true, decide_false, List.all_cons, List.all_nil, List.any_cons, List.any_nil, beq_self_eq_true, t_law_begin, s0]
  refine lc_pure (fun x => match x with | .int i => (if decide ((10 : Int) ^ 18 ≤ (if i < 0 then -i else i)) = true then some (.int (if i < 0 then -i else i)) else none) | x => none) rfl ?_ (by simp; omega) ?_
  · rintro x hx k B hk
    obtain ⟨i, -, rfl⟩ := List.mem_map.mp hx
    simp only [Dz.dSeq, Dz.dIf, Dz.dB, Dz.dOp, Dz.dUn, Dz.dVar, Dz.dC, Dz.dRet, Dz.dRetN, Dz.dNx, Dz.dBrk, Dz.dCnt, Dz.dAsg, Dz.dSet, Dz.dPar, Dz.dPar3, Dz.dgT, Dz.dgTt, Dz.dgCons, Dz.dgNil, Dz.dgN, Dz.dCall, Dz.dCons, Dz.dNil, Dz.dTup, Dz.dCB, Dz.dCN, Dz.dF, Dz.dM, Dz.dSz, Dz.dExpr, Dz.dNot, Dz.dAnd, Dz.dOr, Dz.dAndV, Dz.dOrV, Dz.dNotV, Dz.dIfE, Dz.dChain, Dz.dFrz, Dz.dIt, Dz.dRng1, Dz.dRng2, Dz.dSl, Dz.dNoPart, Dz.dPart, Dz.dCat, Dz.dRep, Dz.dLc, Dz.dFor, Dz.dAppend, Dz.dPop, Dz.dPopAt, Dz.rPopAtD, Dz.dSetIx, Dz.dYes, Dz.dRev, Dz.asI, Dz.asQ, Dz.asL, Dz.rIsN, Dz.rIs, Dz.rIsNot, Dz.isNon_d, Dz.isNon_non, Dz.isNon_tup, Dz.isNon_lst, Dz.isNon_str, Dz.isNon_int, Dz.isNon_bl, Dz.isNon_ref, Dz.isNon_dic, Dz.isNon_ty, Dz.rAddU, Dz.rSub, Dz.rMod, Dz.rDiv, Dz.rPow, Dz.rLt, Dz.rLe, Dz.rGt, Dz.rGe, Dz.rEq, Dz.rNe, Dz.rEqv, Dz.rInt2, Dz.rMax2, Dz.rMin2, Dz.rI, Dz.rCmp, Dz.rIxU, Dz.rAbs, Dz.rToInt, Dz.rListU, Dz.rSlU, Dz.trk, Dz.rLenU, Dz.rMulU, Dz.rNeg, Dz.startD, Dz.wipeD, Dz.Tr.d, Dz.Sg.put_M, Dz.Sg.put_n, Dz.Sg.put_pv, Dz.Sg.del_M, Dz.Sg.del_n, Dz.Sg.del_pv, Dz.Mm.put_same, Dz.Mm.put_put, Dz.Sg.put_put, Dz.Mm.put_ne, Dz.Mm.del_ne, Dz.rIsi, Dz.tyN, Dz.tyNames, Dz.isiT, Dz.subT, Dz.tyOk, Dz.tyNames, Dz.pyOf, Dz.toPy, Dz.toPys, Dz.Sg.put_mk, Dz.Sg.del_mk, Dz.spend_M, Dz.spend_pv, Dz.spend_n, Dz.spend_spend, Dz.spend_put, Dz.spend_del, Dz.spNext_iff, Dz.asI_lst, Dz.asI_tup, Dz.dFJ, Dz.dJs, Dz.dFmt, Dz.Tr.isNil, List.map_cons, List.map_nil, List.length_cons, List.length_nil, List.length_map, List.length_set, List.replicate, Nat.reduceSub, Nat.reduceAdd, List.cons_append, List.nil_append, List.getElem?_cons_zero, List.getElem?_cons_succ, List.set_cons_zero, List.set_cons_succ, if_true, if_false, Bool.false_eq_true, id, Nat.sub_zero, Bool.not_true, Bool.not_false, true_and, and_true, ne_eq, not_false_eq_true, not_true_eq_false, reduceCtorEq, Option.map_some, Option.bind_some, String.reduceBEq, Bool.or_false, Bool.or_true, Bool.false_or, Bool.true_or, Bool.and_true, Bool.and_false, Bool.true_and, Bool.false_and, decide_true, decide_false, List.all_cons, List.all_nil, List.any_cons, List.any_nil, beq_self_eq_true]
    refine ⟨⟨by decide, by decide, by decide⟩, ?_⟩
    revert hk
    dsimp only
    generalize (if i < 0 then -i else i) = b
    intro hk
    by_cases h : (10 : Int) ^ 18 ≤ b
    · rw [if_pos (decide_eq_true h)] at hk
      exact (if_pos (decide_eq_true h)).mpr hk
    · rw [if_neg (by simpa using h)] at hk
      have h' : ¬ (decide ((10 : Int) ^ Int.toNat 18 ≤ b) = true) := by rw [decide_eq_true_eq]; exact h
      exact (if_neg h').mpr hk
  · obtain ⟨gs, hgs, hgl⟩ : ∃ gs : List Int, (List.filterMap (fun x => match x with | D.int i => (if decide ((10 : Int) ^ 18 ≤ (if i < 0 then -i else i)) = true then some (D.int (if i < 0 then -i else i)) else none) | x => none) (ns.map D.int)) = gs.map D.int ∧ gs.length ≤ 1000 := by
      refine ⟨ns.filterMap fun i => if decide ((10 : Int) ^ 18 ≤ (if i < 0 then -i else i)) = true then some (if i < 0 then -i else i) else none, ?_, Nat.le_trans (List.length_filterMap_le _ _) hl⟩
      rw [List.filterMap_map, List.map_filterMap]
      congr 1
      funext i
      simp only [Function.comp]
      generalize (if i < 0 then -i else i) = b
      split <;> rfl
    rw [List.nil_append, hgs]
    refine for_inv (fun l env s' => ∃ (is : List Int) (w : Int) (e3 : Option D), l = is.map D.int ∧ 0 ≤ w ∧ w < 2305843009213693951 ∧ env = [some (.lst (ns.map D.int)), some (.lst (gs.map D.int)), some (.int w), e3] ∧ s' = ⟨fun _ => none, 1000000000000, []⟩) ?_ ?_ ⟨ns, _, _, rfl, by omega, by omega, rfl, rfl⟩
    · rintro env s' ⟨is, w, e3, _, w0, w1, rfl, rfl⟩
      simp only [Dz.dSeq, Dz.dIf, Dz.dB, Dz.dOp, Dz.dUn, Dz.dVar, Dz.dC, Dz.dRet, Dz.dRetN, Dz.dNx, Dz.dBrk, Dz.dCnt, Dz.dAsg, Dz.dSet, Dz.dPar, Dz.dPar3, Dz.dgT, Dz.dgTt, Dz.dgCons, Dz.dgNil, Dz.dgN, Dz.dCall, Dz.dCons, Dz.dNil, Dz.dTup, Dz.dCB, Dz.dCN, Dz.dF, Dz.dM, Dz.dSz, Dz.dExpr, Dz.dNot, Dz.dAnd, Dz.dOr, Dz.dAndV, Dz.dOrV, Dz.dNotV, Dz.dIfE, Dz.dChain, Dz.dFrz, Dz.dIt, Dz.dRng1, Dz.dRng2, Dz.dSl, Dz.dNoPart, Dz.dPart, Dz.dCat, Dz.dRep, Dz.dLc, Dz.dFor, Dz.dAppend, Dz.dPop, Dz.dPopAt, Dz.rPopAtD, Dz.dSetIx, Dz.dYes, Dz.dRev, Dz.asI, Dz.asQ, Dz.asL, Dz.rIsN, Dz.rIs, Dz.rIsNot, Dz.isNon_d, Dz.isNon_non, Dz.isNon_tup, Dz.isNon_lst, Dz.isNon_str, Dz.isNon_int, Dz.isNon_bl, Dz.isNon_ref, Dz.isNon_dic, Dz.isNon_ty, Dz.rAddU, Dz.rSub, Dz.rMod, Dz.rDiv, Dz.rPow, Dz.rLt, Dz.rLe, Dz.rGt, Dz.rGe, Dz.rEq, Dz.rNe, Dz.rEqv, Dz.rInt2, Dz.rMax2, Dz.rMin2, Dz.rI, Dz.rCmp, Dz.rIxU, Dz.rAbs, Dz.rToInt, Dz.rListU, Dz.rSlU, Dz.trk, Dz.rLenU, Dz.rMulU, Dz.rNeg, Dz.startD, Dz.wipeD, Dz.Tr.d, Dz.Sg.put_M, Dz.Sg.put_n, Dz.Sg.put_pv, Dz.Sg.del_M, Dz.Sg.del_n, Dz.Sg.del_pv, Dz.Mm.put_same, Dz.Mm.put_put, Dz.Sg.put_put, Dz.Mm.put_ne, Dz.Mm.del_ne, Dz.rIsi, Dz.tyN, Dz.tyNames, Dz.isiT, Dz.subT, Dz.tyOk, Dz.tyNames, Dz.pyOf, Dz.toPy, Dz.toPys, Dz.Sg.put_mk, Dz.Sg.del_mk, Dz.spend_M, Dz.spend_pv, Dz.spend_n, Dz.spend_spend, Dz.spend_put, Dz.spend_del, Dz.spNext_iff, Dz.asI_lst, Dz.asI_tup, Dz.dFJ, Dz.dJs, Dz.dFmt, Dz.Tr.isNil, List.map_cons, List.map_nil, List.length_cons, List.length_nil, List.length_map, List.length_set, List.replicate, Nat.reduceSub, Nat.reduceAdd, List.cons_append, List.nil_append, List.getElem?_cons_zero, List.getElem?_cons_succ, List.set_cons_zero, List.set_cons_succ, if_true, if_false, Bool.false_eq_true, id, Nat.sub_zero, Bool.not_true, Bool.not_false, true_and, and_true, ne_eq, not_false_eq_true, not_true_eq_false, reduceCtorEq, Option.map_some, Option.bind_some, String.reduceBEq, Bool.or_false, Bool.or_true, Bool.false_or, Bool.true_or, Bool.and_true, Bool.and_false, Bool.true_and, Bool.false_and, decide_true, decide_false, List.all_cons, List.all_nil, List.any_cons, List.any_nil, beq_self_eq_true, dRevA]
      refine fun a _ => ⟨by decide, fun q hq => ?_⟩
      have nqa : q ≠ a := fun z => by subst z; simp [Mm.put] at hq
      refine ⟨⟨Mm.put (fun _ => none) q (.box DkJ), 1000000000000, [a]⟩, ?_, hR q _ (by simp [Db]) rfl⟩
      refine box_close (p := q) (s' := ⟨Mm.put (fun _ => none) q (.box DkJ), 1000000000000, [a]⟩) (I := DkJ) (st := [.inr gs.reverse, .inl w, .inl 0]) (k := 1000000000000) ⟨_, _, _, rfl, by simpa using hgl, w0, w1, by omega, by decide⟩ (Nat.le_refl _) ?_ ?_ (by simp) (by simp [nqa]) rfl (by simp) ?_ ?_
      · simp [Sg.put, Mm.put, rawV]
      · exact ⟨by simp [Sg.put, Mm.put, nqa.symm], rfl⟩
      · intro c hc
        rw [show c = a by simpa using hc]
        simp [Mm.put, nqa.symm]
      · intro c o hc hm
        simp [Mm.put, hc] at hm
    · rintro x r env s' N ⟨is, w, e3, hx, w0, w1, rfl, rfl⟩ hN
      cases is with
      | nil => cases hx
      | cons i is =>
      simp only [List.map_cons, List.cons.injEq] at hx
      obtain ⟨rfl, rfl⟩ := hx
      simp only [Dz.dSeq, Dz.dIf, Dz.dB, Dz.dOp, Dz.dUn, Dz.dVar, Dz.dC, Dz.dRet, Dz.dRetN, Dz.dNx, Dz.dBrk, Dz.dCnt, Dz.dAsg, Dz.dSet, Dz.dPar, Dz.dPar3, Dz.dgT, Dz.dgTt, Dz.dgCons, Dz.dgNil, Dz.dgN, Dz.dCall, Dz.dCons, Dz.dNil, Dz.dTup, Dz.dCB, Dz.dCN, Dz.dF, Dz.dM, Dz.dSz, Dz.dExpr, Dz.dNot, Dz.dAnd, Dz.dOr, Dz.dAndV, Dz.dOrV, Dz.dNotV, Dz.dIfE, Dz.dChain, Dz.dFrz, Dz.dIt, Dz.dRng1, Dz.dRng2, Dz.dSl, Dz.dNoPart, Dz.dPart, Dz.dCat, Dz.dRep, Dz.dLc, Dz.dFor, Dz.dAppend, Dz.dPop, Dz.dPopAt, Dz.rPopAtD, Dz.dSetIx, Dz.dYes, Dz.dRev, Dz.asI, Dz.asQ, Dz.asL, Dz.rIsN, Dz.rIs, Dz.rIsNot, Dz.isNon_d, Dz.isNon_non, Dz.isNon_tup, Dz.isNon_lst, Dz.isNon_str, Dz.isNon_int, Dz.isNon_bl, Dz.isNon_ref, Dz.isNon_dic, Dz.isNon_ty, Dz.rAddU, Dz.rSub, Dz.rMod, Dz.rDiv, Dz.rPow, Dz.rLt, Dz.rLe, Dz.rGt, Dz.rGe, Dz.rEq, Dz.rNe, Dz.rEqv, Dz.rInt2, Dz.rMax2, Dz.rMin2, Dz.rI, Dz.rCmp, Dz.rIxU, Dz.rAbs, Dz.rToInt, Dz.rListU, Dz.rSlU, Dz.trk, Dz.rLenU, Dz.rMulU, Dz.rNeg, Dz.startD, Dz.wipeD, Dz.Tr.d, Dz.Sg.put_M, Dz.Sg.put_n, Dz.Sg.put_pv, Dz.Sg.del_M, Dz.Sg.del_n, Dz.Sg.del_pv, Dz.Mm.put_same, Dz.Mm.put_put, Dz.Sg.put_put, Dz.Mm.put_ne, Dz.Mm.del_ne, Dz.rIsi, Dz.tyN, Dz.tyNames, Dz.isiT, Dz.subT, Dz.tyOk, Dz.tyNames, Dz.pyOf, Dz.toPy, Dz.toPys, Dz.Sg.put_mk, Dz.Sg.del_mk, Dz.spend_M, Dz.spend_pv, Dz.spend_n, Dz.spend_spend, Dz.spend_put, Dz.spend_del, Dz.spNext_iff, Dz.asI_lst, Dz.asI_tup, Dz.dFJ, Dz.dJs, Dz.dFmt, Dz.Tr.isNil, List.map_cons, List.map_nil, List.length_cons, List.length_nil, List.length_map, List.length_set, List.replicate, Nat.reduceSub, Nat.reduceAdd, List.cons_append, List.nil_append, List.getElem?_cons_zero, List.getElem?_cons_succ, List.set_cons_zero, List.set_cons_succ, if_true, if_false, Bool.false_eq_true, id, Nat.sub_zero, Bool.not_true, Bool.not_false, true_and, and_true, ne_eq, not_false_eq_true, not_true_eq_false, reduceCtorEq, Option.map_some, Option.bind_some, String.reduceBEq, Bool.or_false, Bool.or_true, Bool.false_or, Bool.true_or, Bool.and_true, Bool.and_false, Bool.true_and, Bool.false_and, decide_true, decide_false, List.all_cons, List.all_nil, List.any_cons, List.any_nil, beq_self_eq_true]
      refine ⟨cmul_r (by omega) (by omega), cmul_l (by omega) (by omega), by omega, hN _ _ ⟨is, _, _, rfl, ?_, ?_, rfl, rfl⟩⟩
      · exact Int.emod_nonneg _ (by omega)
      · exact Int.emod_lt_of_pos _ (by omega)
end Pr
namespace Pr
open PySem PySem.Spec PyProof.Rows L2 Dz
def Lt (c : Nat) : Prop := 97 ≤ c ∧ c ≤ 122
def abc : List Nat := [97, 98, 99, 100, 101, 102, 103, 104, 105, 106, 107, 108, 109, 110, 111, 112, 113, 114, 115, 116, 117, 118, 119, 120, 121, 122]
theorem abc_eq : ("abcdefghijklmnopqrstuvwxyz" : Str).cps.toList = abc := by decide +kernel
theorem abc_len : ("abcdefghijklmnopqrstuvwxyz" : Str).length = 26 := by decide +kernel
theorem abc_lt : ∀ c ∈ abc, Lt c := by unfold Lt abc; decide
theorem chrs_inj : ∀ {a b : List Nat}, a.map chr = b.map chr → a = b
  | [], [], _ => rfl
  | [], _ :: _, h => by simp at h
  | _ :: _, [], h => by simp at h
  | x :: a, y :: b, h => by
    simp only [List.map_cons, List.cons.injEq] at h
    rw [chr_inj h.1, chrs_inj h.2]
theorem toPys_chrs : ∀ ns : List Nat, toPys (ns.map chr) = some (ns.map fun c => PyData.str ⟨#[c]⟩)
  | [] => rfl
  | n :: ns => by
    simp only [List.map_cons, toPys, toPys_chrs ns, Option.map_some]
    rfl
theorem fit_chrs {ls : List Nat} {n : Nat} (h : ∀ c ∈ ls, Lt c) (hl : ls.length ≤ 1000) (hn : 0 < n) : fit (.lst (ls.map chr)) n :=
  ⟨hn, by rw [List.length_map]; omega, fits_of fun w hw => by
    obtain ⟨c, hc, rfl⟩ := List.mem_map.mp hw
    have := h c hc
    unfold Lt at this
    exact strOk_chr (by omega)⟩
theorem shaped_chrs {ls : List Nat} (h : ∀ c ∈ ls, Lt c) (hl : ls.length ≤ 1000) : SeqAt.shaped (.list (ls.map fun c => PyData.str ⟨#[c]⟩)) = true :=
  shaped_of (fit_chrs (n := 1) h hl (by decide)) (by decide) (by show (toPys _).map _ = _; rw [toPys_chrs]; rfl)
theorem perm_erase {α : Type} : ∀ (xs : List α) (i : Nat) (h : i < xs.length), (xs[i] :: xs.eraseIdx i).Perm xs
  | x :: xs, 0, _ => List.Perm.refl _
  | x :: xs, i + 1, h => by
    have := perm_erase xs i (by simpa using h)
    exact (List.Perm.swap _ _ _).trans (List.Perm.cons _ this)
/-- another order of the letters -/
def spMixed : SpD := fun ws s R _ => ∃ (p : Addr) (ls : List Nat), ws = [.ref p, .lst (ls.map chr)] ∧ Db s p ∧ (∀ c ∈ ls, Lt c) ∧ ls.length ≤ 26 ∧ 26 ≤ s.n ∧ ∀ ys : List Nat, ys.Perm ls → R (.lst (ys.map chr)) (spend s 26)
theorem spMixed_iff {p : Addr} {ls : List Nat} {s : Sg} {R : KD} {E : XD} : spMixed [.ref p, .lst (ls.map chr)] s R E ↔ Db s p ∧ (∀ c ∈ ls, Lt c) ∧ ls.length ≤ 26 ∧ 26 ≤ s.n ∧ ∀ ys : List Nat, ys.Perm ls → R (.lst (ys.map chr)) (spend s 26) := by
  constructor
  · rintro ⟨q, m', e, h⟩
    simp only [List.cons.injEq, D.ref.injEq, D.lst.injEq, and_true] at e
    rw [e.1, chrs_inj e.2]
    exact h
  · exact fun h => ⟨p, ls, rfl, h⟩
theorem e_law_mixed : ∀ ws s R, spMixed ws s R X0 → ws.length = 2 ∧ t_law_mixed spNextB { nx := fun _ s' => Lw R .non s', rt := Lw R } (Dz.startD N_law_mixed ws) s := by
  rintro ws s R ⟨p, ls, rfl, hp, hc, hl, hn, hR⟩
  refine ⟨rfl, ?_⟩
  simp only [Dz.dSeq, Dz.dIf, Dz.dB, Dz.dOp, Dz.dUn, Dz.dVar, Dz.dC, Dz.dRet, Dz.dRetN, Dz.dNx, Dz.dBrk, Dz.dCnt, Dz.dAsg, Dz.dSet, Dz.dPar, Dz.dPar3, Dz.dgT, Dz.dgTt, Dz.dgCons, Dz.dgNil, Dz.dgN, Dz.dCall, Dz.dCons, Dz.dNil, Dz.dTup, Dz.dCB, Dz.dCN, Dz.dF, Dz.dM, Dz.dSz, Dz.dExpr, Dz.dNot, Dz.dAnd, Dz.dOr, Dz.dAndV, Dz.dOrV, Dz.dNotV, Dz.dIfE, Dz.dChain, Dz.dFrz, Dz.dIt, Dz.dRng1, Dz.dRng2, Dz.dSl, Dz.dNoPart, Dz.dPart, Dz.dCat, Dz.dRep, Dz.dLc, Dz.dFor, Dz.dAppend, Dz.dPop, Dz.dPopAt, Dz.rPopAtD, Dz.dSetIx, Dz.dYes, Dz.dRev, Dz.asI, Dz.asQ, Dz.asL, Dz.rIsN, Dz.rIs, Dz.rIsNot, Dz.isNon_d, Dz.isNon_non, Dz.isNon_tup, Dz.isNon_lst, Dz.isNon_str, Dz.isNon_int, Dz.isNon_bl, Dz.isNon_ref, Dz.isNon_dic, Dz.isNon_ty, Dz.rAddU, Dz.rSub, Dz.rMod, Dz.rDiv, Dz.rPow, Dz.rLt, Dz.rLe, Dz.rGt, Dz.rGe, Dz.rEq, Dz.rNe, Dz.rEqv, Dz.rInt2, Dz.rMax2, Dz.rMin2, Dz.rI, Dz.rCmp, Dz.rIxU, Dz.rAbs, Dz.rToInt, Dz.rListU, Dz.rSlU, Dz.trk, Dz.rLenU, Dz.rMulU, Dz.rNeg, Dz.startD, Dz.wipeD, Dz.Tr.d, Dz.Sg.put_M, Dz.Sg.put_n, Dz.Sg.put_pv, Dz.Sg.del_M, Dz.Sg.del_n, Dz.Sg.del_pv, Dz.Mm.put_same, Dz.Mm.put_put, Dz.Sg.put_put, Dz.Mm.put_ne, Dz.Mm.del_ne, Dz.rIsi, Dz.tyN, Dz.tyNames, Dz.isiT, Dz.subT, Dz.tyOk, Dz.tyNames, Dz.pyOf, Dz.toPy, Dz.toPys, Dz.Sg.put_mk, Dz.Sg.del_mk, Dz.spend_M, Dz.spend_pv, Dz.spend_n, Dz.spend_spend, Dz.spend_put, Dz.spend_del, Dz.spNext_iff, Dz.asI_lst, Dz.asI_tup, Dz.dFJ, Dz.dJs, Dz.dFmt, Dz.Tr.isNil, List.map_cons, List.map_nil, List.length_cons, List.length_nil, List.length_map, List.length_set, List.replicate, Nat.reduceSub, Nat.reduceAdd, List.cons_append, List.nil_append, List.getElem?_cons_zero, List.getElem?_cons_succ, List.set_cons_zero, List.set_cons_succ, if_true, if_false, Bool.false_eq_true, id, Nat.sub_zero, Bool.not_true, Bool.not_false, true_and, and_true, ne_eq, not_false_eq_true, not_true_eq_false, reduceCtorEq, Option.map_some, Option.bind_some, String.reduceBEq, Bool.or_false, Bool.or_true, Bool.false_or, Bool.true_or, Bool.and_true, Bool.and_false, Bool.true_and, Bool.false_and, decide_true, decide_false, List.all_cons, List.all_nil, List.any_cons, List.any_nil, beq_self_eq_true, t_law_mixed]
  intro a ha
  refine ⟨by decide, fun b hb => ?_⟩
  have npa : p ≠ a := hp.neN ha
  have nab : a ≠ b := fun e => by subst e; simp at hb
  have hb1 : s.M b = none := by rw [Mm.put_ne nab.symm] at hb; exact hb
  have npb : p ≠ b := hp.neN hb1
  refine while_of (fun k env s' => ∃ (so fo : List Nat), env = [some (.ref p), some (.lst (ls.map chr)), some (.ref a), some (.ref b)] ∧ so.length = k ∧ (fo ++ so).Perm ls ∧ Ov s s' fo.length ∧ s'.M a = some (.lst (so.map chr)) ∧ s'.M b = some (.lst (fo.map chr))) ls.length ⟨ls, [], rfl, rfl, by simp, ?_, ?_, ?_⟩ ?_
  · exact ((Ov.refl s).put ha).put hb1
  · simp [Mm.put, nab]
  · simp [Mm.put]
  · rintro k env s' N ⟨so, fo, rfl, h1, h2, ov, ma, mb⟩ hN
    have hls := h2.length_eq
    rw [List.length_append] at hls
    have hso : ∀ c ∈ so, Lt c := fun c h => hc c (h2.mem_iff.mp (List.mem_append_right _ h))
    simp only [Dz.dSeq, Dz.dIf, Dz.dB, Dz.dOp, Dz.dUn, Dz.dVar, Dz.dC, Dz.dRet, Dz.dRetN, Dz.dNx, Dz.dBrk, Dz.dCnt, Dz.dAsg, Dz.dSet, Dz.dPar, Dz.dPar3, Dz.dgT, Dz.dgTt, Dz.dgCons, Dz.dgNil, Dz.dgN, Dz.dCall, Dz.dCons, Dz.dNil, Dz.dTup, Dz.dCB, Dz.dCN, Dz.dF, Dz.dM, Dz.dSz, Dz.dExpr, Dz.dNot, Dz.dAnd, Dz.dOr, Dz.dAndV, Dz.dOrV, Dz.dNotV, Dz.dIfE, Dz.dChain, Dz.dFrz, Dz.dIt, Dz.dRng1, Dz.dRng2, Dz.dSl, Dz.dNoPart, Dz.dPart, Dz.dCat, Dz.dRep, Dz.dLc, Dz.dFor, Dz.dAppend, Dz.dPop, Dz.dPopAt, Dz.rPopAtD, Dz.dSetIx, Dz.dYes, Dz.dRev, Dz.asI, Dz.asQ, Dz.asL, Dz.rIsN, Dz.rIs, Dz.rIsNot, Dz.isNon_d, Dz.isNon_non, Dz.isNon_tup, Dz.isNon_lst, Dz.isNon_str, Dz.isNon_int, Dz.isNon_bl, Dz.isNon_ref, Dz.isNon_dic, Dz.isNon_ty, Dz.rAddU, Dz.rSub, Dz.rMod, Dz.rDiv, Dz.rPow, Dz.rLt, Dz.rLe, Dz.rGt, Dz.rGe, Dz.rEq, Dz.rNe, Dz.rEqv, Dz.rInt2, Dz.rMax2, Dz.rMin2, Dz.rI, Dz.rCmp, Dz.rIxU, Dz.rAbs, Dz.rToInt, Dz.rListU, Dz.rSlU, Dz.trk, Dz.rLenU, Dz.rMulU, Dz.rNeg, Dz.startD, Dz.wipeD, Dz.Tr.d, Dz.Sg.put_M, Dz.Sg.put_n, Dz.Sg.put_pv, Dz.Sg.del_M, Dz.Sg.del_n, Dz.Sg.del_pv, Dz.Mm.put_same, Dz.Mm.put_put, Dz.Sg.put_put, Dz.Mm.put_ne, Dz.Mm.del_ne, Dz.rIsi, Dz.tyN, Dz.tyNames, Dz.isiT, Dz.subT, Dz.tyOk, Dz.tyNames, Dz.pyOf, Dz.toPy, Dz.toPys, Dz.Sg.put_mk, Dz.Sg.del_mk, Dz.spend_M, Dz.spend_pv, Dz.spend_n, Dz.spend_spend, Dz.spend_put, Dz.spend_del, Dz.spNext_iff, Dz.asI_lst, Dz.asI_tup, Dz.dFJ, Dz.dJs, Dz.dFmt, Dz.Tr.isNil, List.map_cons, List.map_nil, List.length_cons, List.length_nil, List.length_map, List.length_set, List.replicate, Nat.reduceSub, Nat.reduceAdd, List.cons_append, List.nil_append, List.getElem?_cons_zero, List.getElem?_cons_succ, List.set_cons_zero, List.set_cons_succ, if_true, if_false, Bool.false_eq_true, id, Nat.sub_zero, Bool.not_true, Bool.not_false, true_and, and_true, ne_eq, not_false_eq_true, not_true_eq_false, reduceCtorEq, Option.map_some, Option.bind_some, String.reduceBEq, Bool.or_false, Bool.or_true, Bool.false_or, Bool.true_or, Bool.and_true, Bool.and_false, Bool.true_and, Bool.false_and, decide_true, decide_false, List.all_cons, List.all_nil, List.any_cons, List.any_nil, beq_self_eq_true, ma, mb, toPys_chrs, shaped_chrs hso (by omega), shaped_nil, eqv_nilr, spNextB_iff]
    refine ⟨by decide, ?_⟩
    split
    · rename_i hne
      have hgl : 0 < so.length := by
        cases so with
        | nil => simp at hne
        | cons _ _ => simp
      refine ⟨Db.ov ov hp, by omega, by omega, by have := ov.n; omega, fun i i0 i1 => ⟨by omega, ?_⟩⟩
      rw [ixN_nat i0 i1]
      have hi : i.toNat < so.length := by omega
      have e3 : (so.map chr)[i.toNat]? = some (chr so[i.toNat]) := by simp [hi]
      dsimp only
      rw [e3]
      simp only [Dz.dSeq, Dz.dIf, Dz.dB, Dz.dOp, Dz.dUn, Dz.dVar, Dz.dC, Dz.dRet, Dz.dRetN, Dz.dNx, Dz.dBrk, Dz.dCnt, Dz.dAsg, Dz.dSet, Dz.dPar, Dz.dPar3, Dz.dgT, Dz.dgTt, Dz.dgCons, Dz.dgNil, Dz.dgN, Dz.dCall, Dz.dCons, Dz.dNil, Dz.dTup, Dz.dCB, Dz.dCN, Dz.dF, Dz.dM, Dz.dSz, Dz.dExpr, Dz.dNot, Dz.dAnd, Dz.dOr, Dz.dAndV, Dz.dOrV, Dz.dNotV, Dz.dIfE, Dz.dChain, Dz.dFrz, Dz.dIt, Dz.dRng1, Dz.dRng2, Dz.dSl, Dz.dNoPart, Dz.dPart, Dz.dCat, Dz.dRep, Dz.dLc, Dz.dFor, Dz.dAppend, Dz.dPop, Dz.dPopAt, Dz.rPopAtD, Dz.dSetIx, Dz.dYes, Dz.dRev, Dz.asI, Dz.asQ, Dz.asL, Dz.rIsN, Dz.rIs, Dz.rIsNot, Dz.isNon_d, Dz.isNon_non, Dz.isNon_tup, Dz.isNon_lst, Dz.isNon_str, Dz.isNon_int, Dz.isNon_bl, Dz.isNon_ref, Dz.isNon_dic, Dz.isNon_ty, Dz.rAddU, Dz.rSub, Dz.rMod, Dz.rDiv, Dz.rPow, Dz.rLt, Dz.rLe, Dz.rGt, Dz.rGe, Dz.rEq, Dz.rNe, Dz.rEqv, Dz.rInt2, Dz.rMax2, Dz.rMin2, Dz.rI, Dz.rCmp, Dz.rIxU, Dz.rAbs, Dz.rToInt, Dz.rListU, Dz.rSlU, Dz.trk, Dz.rLenU, Dz.rMulU, Dz.rNeg, Dz.startD, Dz.wipeD, Dz.Tr.d, Dz.Sg.put_M, Dz.Sg.put_n, Dz.Sg.put_pv, Dz.Sg.del_M, Dz.Sg.del_n, Dz.Sg.del_pv, Dz.Mm.put_same, Dz.Mm.put_put, Dz.Sg.put_put, Dz.Mm.put_ne, Dz.Mm.del_ne, Dz.rIsi, Dz.tyN, Dz.tyNames, Dz.isiT, Dz.subT, Dz.tyOk, Dz.tyNames, Dz.pyOf, Dz.toPy, Dz.toPys, Dz.Sg.put_mk, Dz.Sg.del_mk, Dz.spend_M, Dz.spend_pv, Dz.spend_n, Dz.spend_spend, Dz.spend_put, Dz.spend_del, Dz.spNext_iff, Dz.asI_lst, Dz.asI_tup, Dz.dFJ, Dz.dJs, Dz.dFmt, Dz.Tr.isNil, List.map_cons, List.map_nil, List.length_cons, List.length_nil, List.length_map, List.length_set, List.replicate, Nat.reduceSub, Nat.reduceAdd, List.cons_append, List.nil_append, List.getElem?_cons_zero, List.getElem?_cons_succ, List.set_cons_zero, List.set_cons_succ, if_true, if_false, Bool.false_eq_true, id, Nat.sub_zero, Bool.not_true, Bool.not_false, true_and, and_true, ne_eq, not_false_eq_true, not_true_eq_false, reduceCtorEq, Option.map_some, Option.bind_some, String.reduceBEq, Bool.or_false, Bool.or_true, Bool.false_or, Bool.true_or, Bool.and_true, Bool.and_false, Bool.true_and, Bool.false_and, decide_true, decide_false, List.all_cons, List.all_nil, List.any_cons, List.any_nil, beq_self_eq_true, mb, ma, nab.symm, List.length_map]
      refine ⟨by omega, hN (k - 1) _ _ (by omega) ⟨so.eraseIdx i.toNat, fo ++ [so[i.toNat]], rfl, ?_, ?_, ?_, ?_, ?_⟩⟩
      · simp [List.length_eraseIdx, hi]; omega
      · refine List.Perm.trans ?_ h2
        rw [List.append_assoc]
        refine List.Perm.append_left _ ?_
        exact perm_erase so i.toNat hi
      · have := ((ov.spend (k := 1)).put (o := .lst ((so.map chr).eraseIdx i.toNat)) ha).put (o := .lst (fo.map chr ++ [chr so[i.toNat]])) hb1
        exact this.mono (by simp)
      · simp only [Sg.put_M, Mm.put_ne nab, Mm.put_same, map_erase]
      · simp [Mm.put]
    · rename_i hne
      have : so = [] := by
        cases so with
        | nil => rfl
        | cons _ _ => simp at hne
      subst this
      rw [List.append_nil] at h2
      exact (ov.del hb1).lw (by rw [h2.length_eq]; omega) (hR fo h2)
/-- the letters of a drawn tree, from its root on -/
def spFree (n : Nat) : SpD := fun ws s R _ => ∃ (p : Addr) (ls : List Nat), ws = [.ref p, .lst (ls.map chr)] ∧ Db s p ∧ ls.length < n ∧ (∀ c ∈ ls, Lt c) ∧ ls.length ≤ 26 ∧ ls.length ≤ s.n ∧ ∀ ys : List Nat, ys.Perm ls → R (.lst (ys.map chr)) (spend s ls.length)
theorem spFree_iff {n : Nat} {p : Addr} {ls : List Nat} {s : Sg} {R : KD} {E : XD} : spFree n [.ref p, .lst (ls.map chr)] s R E ↔ Db s p ∧ ls.length < n ∧ (∀ c ∈ ls, Lt c) ∧ ls.length ≤ 26 ∧ ls.length ≤ s.n ∧ ∀ ys : List Nat, ys.Perm ls → R (.lst (ys.map chr)) (spend s ls.length) := by
  constructor
  · rintro ⟨q, m', e, h⟩
    simp only [List.cons.injEq, D.ref.injEq, D.lst.injEq, and_true] at e
    rw [e.1, chrs_inj e.2]
    exact h
  · exact fun h => ⟨p, ls, rfl, h⟩
theorem e_law_free (n : Nat) : ∀ ws s R, spFree (n + 1) ws s R X0 → ws.length = 2 ∧ t_law_free spNextB (spFree n) { nx := fun _ s' => Lw R .non s', rt := Lw R } (Dz.startD N_law_free ws) s := by
  rintro ws s R ⟨p, ls, rfl, hp, hd, hc, hl, hn, hR⟩
  refine ⟨rfl, ?_⟩
  simp only [Dz.dSeq, Dz.dIf, Dz.dB, Dz.dOp, Dz.dUn, Dz.dVar, Dz.dC, Dz.dRet, Dz.dRetN, Dz.dNx, Dz.dBrk, Dz.dCnt, Dz.dAsg, Dz.dSet, Dz.dPar, Dz.dPar3, Dz.dgT, Dz.dgTt, Dz.dgCons, Dz.dgNil, Dz.dgN, Dz.dCall, Dz.dCons, Dz.dNil, Dz.dTup, Dz.dCB, Dz.dCN, Dz.dF, Dz.dM, Dz.dSz, Dz.dExpr, Dz.dNot, Dz.dAnd, Dz.dOr, Dz.dAndV, Dz.dOrV, Dz.dNotV, Dz.dIfE, Dz.dChain, Dz.dFrz, Dz.dIt, Dz.dRng1, Dz.dRng2, Dz.dSl, Dz.dNoPart, Dz.dPart, Dz.dCat, Dz.dRep, Dz.dLc, Dz.dFor, Dz.dAppend, Dz.dPop, Dz.dPopAt, Dz.rPopAtD, Dz.dSetIx, Dz.dYes, Dz.dRev, Dz.asI, Dz.asQ, Dz.asL, Dz.rIsN, Dz.rIs, Dz.rIsNot, Dz.isNon_d, Dz.isNon_non, Dz.isNon_tup, Dz.isNon_lst, Dz.isNon_str, Dz.isNon_int, Dz.isNon_bl, Dz.isNon_ref, Dz.isNon_dic, Dz.isNon_ty, Dz.rAddU, Dz.rSub, Dz.rMod, Dz.rDiv, Dz.rPow, Dz.rLt, Dz.rLe, Dz.rGt, Dz.rGe, Dz.rEq, Dz.rNe, Dz.rEqv, Dz.rInt2, Dz.rMax2, Dz.rMin2, Dz.rI, Dz.rCmp, Dz.rIxU, Dz.rAbs, Dz.rToInt, Dz.rListU, Dz.rSlU, Dz.trk, Dz.rLenU, Dz.rMulU, Dz.rNeg, Dz.startD, Dz.wipeD, Dz.Tr.d, Dz.Sg.put_M, Dz.Sg.put_n, Dz.Sg.put_pv, Dz.Sg.del_M, Dz.Sg.del_n, Dz.Sg.del_pv, Dz.Mm.put_same, Dz.Mm.put_put, Dz.Sg.put_put, Dz.Mm.put_ne, Dz.Mm.del_ne, Dz.rIsi, Dz.tyN, Dz.tyNames, Dz.isiT, Dz.subT, Dz.tyOk, Dz.tyNames, Dz.pyOf, Dz.toPy, Dz.toPys, Dz.Sg.put_mk, Dz.Sg.del_mk, Dz.spend_M, Dz.spend_pv, Dz.spend_n, Dz.spend_spend, Dz.spend_put, Dz.spend_del, Dz.spNext_iff, Dz.asI_lst, Dz.asI_tup, Dz.dFJ, Dz.dJs, Dz.dFmt, Dz.Tr.isNil, List.map_cons, List.map_nil, List.length_cons, List.length_nil, List.length_map, List.length_set, List.replicate, Nat.reduceSub, Nat.reduceAdd, List.cons_append, List.nil_append, List.getElem?_cons_zero, List.getElem?_cons_succ, List.set_cons_zero, List.set_cons_succ, if_true, if_false, Bool.false_eq_true, id, Nat.sub_zero, Bool.not_true, Bool.not_false, true_and, and_true, ne_eq, not_false_eq_true, not_true_eq_false, reduceCtorEq, Option.map_some, Option.bind_some, String.reduceBEq, Bool.or_false, Bool.or_true, Bool.false_or, Bool.true_or, Bool.and_true, Bool.and_false, Bool.true_and, Bool.false_and, decide_true, decide_false, List.all_cons, List.all_nil, List.any_cons, List.any_nil, beq_self_eq_true, t_law_free, toPys_chrs, shaped_chrs hc (by omega), shaped_nil, eqv_nilr, spNextB_iff]
  refine ⟨by decide, ?_⟩
  split
  · rename_i hne
    have : ls = [] := by
      cases ls with
      | nil => rfl
      | cons _ _ => simp at hne
    subst this
    exact ⟨by decide, .of (hR [] (List.Perm.refl _))⟩
  · rename_i hne
    have hgl : 0 < ls.length := by
      cases ls with
      | nil => simp at hne
      | cons _ _ => simp
    refine ⟨hp, by omega, by omega, by omega, fun i i0 i1 => ?_⟩
    have hi : i.toNat < ls.length := by omega
    obtain ⟨c, e1, e2, e3⟩ := atI_map (f := chr) (xs := ls) (i := i) i0 i1
    rw [e3]
    dsimp only
    refine ⟨by decide, ?_⟩
    rw [cut_to i0, cut_from (by omega), ← List.map_take, ← List.map_drop, spFree_iff, List.length_take, show min i.toNat ls.length = i.toNat by omega]
    refine ⟨hp, by omega, fun c h => hc c (List.mem_of_mem_take h), by omega, by rw [spend_n]; omega, fun ys1 p1 => ?_⟩
    have l1 := p1.length_eq
    rw [List.length_take] at l1
    simp only [Dz.dSeq, Dz.dIf, Dz.dB, Dz.dOp, Dz.dUn, Dz.dVar, Dz.dC, Dz.dRet, Dz.dRetN, Dz.dNx, Dz.dBrk, Dz.dCnt, Dz.dAsg, Dz.dSet, Dz.dPar, Dz.dPar3, Dz.dgT, Dz.dgTt, Dz.dgCons, Dz.dgNil, Dz.dgN, Dz.dCall, Dz.dCons, Dz.dNil, Dz.dTup, Dz.dCB, Dz.dCN, Dz.dF, Dz.dM, Dz.dSz, Dz.dExpr, Dz.dNot, Dz.dAnd, Dz.dOr, Dz.dAndV, Dz.dOrV, Dz.dNotV, Dz.dIfE, Dz.dChain, Dz.dFrz, Dz.dIt, Dz.dRng1, Dz.dRng2, Dz.dSl, Dz.dNoPart, Dz.dPart, Dz.dCat, Dz.dRep, Dz.dLc, Dz.dFor, Dz.dAppend, Dz.dPop, Dz.dPopAt, Dz.rPopAtD, Dz.dSetIx, Dz.dYes, Dz.dRev, Dz.asI, Dz.asQ, Dz.asL, Dz.rIsN, Dz.rIs, Dz.rIsNot, Dz.isNon_d, Dz.isNon_non, Dz.isNon_tup, Dz.isNon_lst, Dz.isNon_str, Dz.isNon_int, Dz.isNon_bl, Dz.isNon_ref, Dz.isNon_dic, Dz.isNon_ty, Dz.rAddU, Dz.rSub, Dz.rMod, Dz.rDiv, Dz.rPow, Dz.rLt, Dz.rLe, Dz.rGt, Dz.rGe, Dz.rEq, Dz.rNe, Dz.rEqv, Dz.rInt2, Dz.rMax2, Dz.rMin2, Dz.rI, Dz.rCmp, Dz.rIxU, Dz.rAbs, Dz.rToInt, Dz.rListU, Dz.rSlU, Dz.trk, Dz.rLenU, Dz.rMulU, Dz.rNeg, Dz.startD, Dz.wipeD, Dz.Tr.d, Dz.Sg.put_M, Dz.Sg.put_n, Dz.Sg.put_pv, Dz.Sg.del_M, Dz.Sg.del_n, Dz.Sg.del_pv, Dz.Mm.put_same, Dz.Mm.put_put, Dz.Sg.put_put, Dz.Mm.put_ne, Dz.Mm.del_ne, Dz.rIsi, Dz.tyN, Dz.tyNames, Dz.isiT, Dz.subT, Dz.tyOk, Dz.tyNames, Dz.pyOf, Dz.toPy, Dz.toPys, Dz.Sg.put_mk, Dz.Sg.del_mk, Dz.spend_M, Dz.spend_pv, Dz.spend_n, Dz.spend_spend, Dz.spend_put, Dz.spend_del, Dz.spNext_iff, Dz.asI_lst, Dz.asI_tup, Dz.dFJ, Dz.dJs, Dz.dFmt, Dz.Tr.isNil, List.map_cons, List.map_nil, List.length_cons, List.length_nil, List.length_map, List.length_set, List.replicate, Nat.reduceSub, Nat.reduceAdd, List.cons_append, List.nil_append, List.getElem?_cons_zero, List.getElem?_cons_succ, List.set_cons_zero, List.set_cons_succ, if_true, if_false, Bool.false_eq_true, id, Nat.sub_zero, Bool.not_true, Bool.not_false, true_and, and_true, ne_eq, not_false_eq_true, not_true_eq_false, reduceCtorEq, Option.map_some, Option.bind_some, String.reduceBEq, Bool.or_false, Bool.or_true, Bool.false_or, Bool.true_or, Bool.and_true, Bool.and_false, Bool.true_and, Bool.false_and, decide_true, decide_false, List.all_cons, List.all_nil, List.any_cons, List.any_nil, beq_self_eq_true, spFree_iff]
    rw [List.length_drop, show (i + 1).toNat = i.toNat + 1 by omega]
    refine ⟨by omega, hp, by omega, fun c h => hc c (List.mem_of_mem_drop h), by omega, by omega, fun ys2 p2 => ?_⟩
    have l2 := p2.length_eq
    rw [List.length_drop] at l2
    refine ⟨by omega, ?_⟩
    rw [show 1 + i.toNat + (ls.length - (i.toNat + 1)) = ls.length by omega]
    have := hR (c :: (ys1 ++ ys2)) ?_
    · refine .of ?_
      simpa using this
    · have ec : ls[i.toNat] = c := by rw [List.getElem?_eq_getElem hi] at e1; exact Option.some.inj e1
      have h3 : ls = ls.take i.toNat ++ c :: ls.drop (i.toNat + 1) := by
        conv => lhs; rw [← List.take_append_drop i.toNat ls, List.drop_eq_getElem_cons hi, ec]
      have h4 : (ls.take i.toNat ++ c :: ls.drop (i.toNat + 1)).Perm (c :: (ls.take i.toNat ++ ls.drop (i.toNat + 1))) := List.perm_middle
      rw [← h3] at h4
      exact (List.Perm.cons c (p1.append p2)).trans h4.symm
end Pr
namespace Pr
open PySem PySem.Spec PyProof.Rows L2 Dz
theorem perm_strs {fo : List Nat} {ys : List Str} (pm : ys.Perm (fo.map fun c => ⟨#[c]⟩)) : ∃ ls : List Nat, ys.map D.str = ls.map chr ∧ ls.Perm fo := by
  refine ⟨ys.map fun y => y.cps.toList.headD 0, ?_, ?_⟩
  · rw [List.map_map]
    apply List.map_congr_left
    intro y hy
    obtain ⟨c, -, rfl⟩ := List.mem_map.mp (pm.mem_iff.mp hy)
    rfl
  · have := pm.map fun y : Str => y.cps.toList.headD 0
    rw [List.map_map] at this
    have e : ((fun y : Str => y.cps.toList.headD 0) ∘ fun c => (⟨#[c]⟩ : Str)) = id := by funext c; rfl
    rw [e, List.map_id] at this
    exact this
theorem sempty : (Str.ofString "") = mkS [] := by decide +kernel
theorem sjoin_chrs : ∀ ls : List Nat, Str.join (mkS []) (ls.map fun c => ⟨#[c]⟩) = mkS ls
  | [] => rfl
  | [c] => rfl
  | c :: d :: ls => by
    have ih := sjoin_chrs (d :: ls)
    show mkS [c] ++ mkS [] ++ Str.join (mkS []) ((d :: ls).map fun c => ⟨#[c]⟩) = _
    rw [ih, mkS_app, mkS_app]
    rfl
theorem join_chrs (ls : List Nat) : Txt.join (mkS []) (ls.map fun c => ⟨#[c]⟩) = mkS ls :=
  (StrLaws.glued_eq_join _ _).trans (sjoin_chrs ls)
def spOrder : SpD := fun ws s R _ => ∃ (p : Addr) (lo hi : Nat), ws = [.ref p, .int lo, .int hi] ∧ Db s p ∧ lo ≤ hi ∧ hi ≤ 26 ∧ 200 ≤ s.n ∧ ∀ ls : List Nat, lo ≤ ls.length → ls.length ≤ hi → (∀ c ∈ ls, Lt c) → ls.Nodup → R (.str (mkS ls)) (spend s 200)
theorem e_law_order : ∀ ws s R, spOrder ws s R X0 → ws.length = 3 ∧ t_law_order spNextB spMixed (spFree 30) { nx := fun _ s' => Lw R .non s', rt := Lw R } (Dz.startD N_law_order ws) s := by
  rintro ws s R ⟨p, lo, hi, rfl, hp, hlh, hh, hn, hR⟩
  refine ⟨rfl, ?_⟩
  have ch : (fun c => D.str ⟨#[c]⟩) = chr := rfl
  simp only [Dz.dSeq, Dz.dIf, Dz.dB, Dz.dOp, Dz.dUn, Dz.dVar, Dz.dC, Dz.dRet, Dz.dRetN, Dz.dNx, Dz.dBrk, Dz.dCnt, Dz.dAsg, Dz.dSet, Dz.dPar, Dz.dPar3, Dz.dgT, Dz.dgTt, Dz.dgCons, Dz.dgNil, Dz.dgN, Dz.dCall, Dz.dCons, Dz.dNil, Dz.dTup, Dz.dCB, Dz.dCN, Dz.dF, Dz.dM, Dz.dSz, Dz.dExpr, Dz.dNot, Dz.dAnd, Dz.dOr, Dz.dAndV, Dz.dOrV, Dz.dNotV, Dz.dIfE, Dz.dChain, Dz.dFrz, Dz.dIt, Dz.dRng1, Dz.dRng2, Dz.dSl, Dz.dNoPart, Dz.dPart, Dz.dCat, Dz.dRep, Dz.dLc, Dz.dFor, Dz.dAppend, Dz.dPop, Dz.dPopAt, Dz.rPopAtD, Dz.dSetIx, Dz.dYes, Dz.dRev, Dz.asI, Dz.asQ, Dz.asL, Dz.rIsN, Dz.rIs, Dz.rIsNot, Dz.isNon_d, Dz.isNon_non, Dz.isNon_tup, Dz.isNon_lst, Dz.isNon_str, Dz.isNon_int, Dz.isNon_bl, Dz.isNon_ref, Dz.isNon_dic, Dz.isNon_ty, Dz.rAddU, Dz.rSub, Dz.rMod, Dz.rDiv, Dz.rPow, Dz.rLt, Dz.rLe, Dz.rGt, Dz.rGe, Dz.rEq, Dz.rNe, Dz.rEqv, Dz.rInt2, Dz.rMax2, Dz.rMin2, Dz.rI, Dz.rCmp, Dz.rIxU, Dz.rAbs, Dz.rToInt, Dz.rListU, Dz.rSlU, Dz.trk, Dz.rLenU, Dz.rMulU, Dz.rNeg, Dz.startD, Dz.wipeD, Dz.Tr.d, Dz.Sg.put_M, Dz.Sg.put_n, Dz.Sg.put_pv, Dz.Sg.del_M, Dz.Sg.del_n, Dz.Sg.del_pv, Dz.Mm.put_same, Dz.Mm.put_put, Dz.Sg.put_put, Dz.Mm.put_ne, Dz.Mm.del_ne, Dz.rIsi, Dz.tyN, Dz.tyNames, Dz.isiT, Dz.subT, Dz.tyOk, Dz.tyNames, Dz.pyOf, Dz.toPy, Dz.toPys, Dz.Sg.put_mk, Dz.Sg.del_mk, Dz.spend_M, Dz.spend_pv, Dz.spend_n, Dz.spend_spend, Dz.spend_put, Dz.spend_del, Dz.spNext_iff, Dz.asI_lst, Dz.asI_tup, Dz.dFJ, Dz.dJs, Dz.dFmt, Dz.Tr.isNil, List.map_cons, List.map_nil, List.length_cons, List.length_nil, List.length_map, List.length_set, List.replicate, Nat.reduceSub, Nat.reduceAdd, List.cons_append, List.nil_append, List.getElem?_cons_zero, List.getElem?_cons_succ, List.set_cons_zero, List.set_cons_succ, if_true, if_false, Bool.false_eq_true, id, Nat.sub_zero, Bool.not_true, Bool.not_false, true_and, and_true, ne_eq, not_false_eq_true, not_true_eq_false, reduceCtorEq, Option.map_some, Option.bind_some, String.reduceBEq, Bool.or_false, Bool.or_true, Bool.false_or, Bool.true_or, Bool.and_true, Bool.and_false, Bool.true_and, Bool.false_and, decide_true, decide_false, List.all_cons, List.all_nil, List.any_cons, List.any_nil, beq_self_eq_true, t_law_order, spNextB_iff, spMixed_iff, abc_eq, abc_len, ch]
  refine ⟨hp, by omega, by omega, by omega, fun r r0 r1 => ⟨hp, by decide, by decide, by omega, fun i i0 i1 => ⟨by decide, hp, abc_lt, by decide, by omega, fun ys py => ?_⟩⟩⟩
  rw [cut_to (by omega), ← List.map_take]
  have hz : ((lo : Int) + r).toNat = lo + r.toNat := by omega
  rw [hz]
  have ly := py.length_eq
  rw [show abc.length = 26 from rfl] at ly
  have lt : (ys.take (lo + r.toNat)).length = lo + r.toNat := by rw [List.length_take]; omega
  refine ⟨.lst ((ys.take (lo + r.toNat)).map chr), (ys.take (lo + r.toNat)).map (fun c => ⟨#[c]⟩), rfl, ?_, by rw [List.length_map]; omega, fun zs pz _ => ?_⟩
  · simp only [Dz.dSeq, Dz.dIf, Dz.dB, Dz.dOp, Dz.dUn, Dz.dVar, Dz.dC, Dz.dRet, Dz.dRetN, Dz.dNx, Dz.dBrk, Dz.dCnt, Dz.dAsg, Dz.dSet, Dz.dPar, Dz.dPar3, Dz.dgT, Dz.dgTt, Dz.dgCons, Dz.dgNil, Dz.dgN, Dz.dCall, Dz.dCons, Dz.dNil, Dz.dTup, Dz.dCB, Dz.dCN, Dz.dF, Dz.dM, Dz.dSz, Dz.dExpr, Dz.dNot, Dz.dAnd, Dz.dOr, Dz.dAndV, Dz.dOrV, Dz.dNotV, Dz.dIfE, Dz.dChain, Dz.dFrz, Dz.dIt, Dz.dRng1, Dz.dRng2, Dz.dSl, Dz.dNoPart, Dz.dPart, Dz.dCat, Dz.dRep, Dz.dLc, Dz.dFor, Dz.dAppend, Dz.dPop, Dz.dPopAt, Dz.rPopAtD, Dz.dSetIx, Dz.dYes, Dz.dRev, Dz.asI, Dz.asQ, Dz.asL, Dz.rIsN, Dz.rIs, Dz.rIsNot, Dz.isNon_d, Dz.isNon_non, Dz.isNon_tup, Dz.isNon_lst, Dz.isNon_str, Dz.isNon_int, Dz.isNon_bl, Dz.isNon_ref, Dz.isNon_dic, Dz.isNon_ty, Dz.rAddU, Dz.rSub, Dz.rMod, Dz.rDiv, Dz.rPow, Dz.rLt, Dz.rLe, Dz.rGt, Dz.rGe, Dz.rEq, Dz.rNe, Dz.rEqv, Dz.rInt2, Dz.rMax2, Dz.rMin2, Dz.rI, Dz.rCmp, Dz.rIxU, Dz.rAbs, Dz.rToInt, Dz.rListU, Dz.rSlU, Dz.trk, Dz.rLenU, Dz.rMulU, Dz.rNeg, Dz.startD, Dz.wipeD, Dz.Tr.d, Dz.Sg.put_M, Dz.Sg.put_n, Dz.Sg.put_pv, Dz.Sg.del_M, Dz.Sg.del_n, Dz.Sg.del_pv, Dz.Mm.put_same, Dz.Mm.put_put, Dz.Sg.put_put, Dz.Mm.put_ne, Dz.Mm.del_ne, Dz.rIsi, Dz.tyN, Dz.tyNames, Dz.isiT, Dz.subT, Dz.tyOk, Dz.tyNames, Dz.pyOf, Dz.toPy, Dz.toPys, Dz.Sg.put_mk, Dz.Sg.del_mk, Dz.spend_M, Dz.spend_pv, Dz.spend_n, Dz.spend_spend, Dz.spend_put, Dz.spend_del, Dz.spNext_iff, Dz.asI_lst, Dz.asI_tup, Dz.dFJ, Dz.dJs, Dz.dFmt, Dz.Tr.isNil, List.map_cons, List.map_nil, List.length_cons, List.length_nil, List.length_map, List.length_set, List.replicate, Nat.reduceSub, Nat.reduceAdd, List.cons_append, List.nil_append, List.getElem?_cons_zero, List.getElem?_cons_succ, List.set_cons_zero, List.set_cons_succ, if_true, if_false, Bool.false_eq_true, id, Nat.sub_zero, Bool.not_true, Bool.not_false, true_and, and_true, ne_eq, not_false_eq_true, not_true_eq_false, reduceCtorEq, Option.map_some, Option.bind_some, String.reduceBEq, Bool.or_false, Bool.or_true, Bool.false_or, Bool.true_or, Bool.and_true, Bool.and_false, Bool.true_and, Bool.false_and, decide_true, decide_false, List.all_cons, List.all_nil, List.any_cons, List.any_nil, beq_self_eq_true, List.map_map]; rfl
  · obtain ⟨ls, e1, pl⟩ := perm_strs pz
    rw [e1]
    have hl := pl.length_eq
    rw [lt] at hl
    have hc : ∀ c ∈ ls, Lt c := fun c h => abc_lt c (py.mem_iff.mp (List.mem_of_mem_take (pl.mem_iff.mp h)))
    have hnd : ls.Nodup := by
      have h1 : abc.Nodup := by decide
      have h2 : ys.Nodup := (py.nodup_iff).mpr h1
      exact (pl.nodup_iff).mpr (h2.sublist (List.take_sublist _ _))
    have fin : ∀ (ms : List Nat) (j : Nat), ms.Perm ls → j ≤ 200 → Lw R (.str (Txt.join (mkS []) (ms.map fun c => ⟨#[c]⟩))) (spend s j) := fun ms j pm hj => by
      rw [join_chrs]
      have := pm.length_eq
      exact .more hj (hR ms (by omega) (by omega) (fun c h => hc c (pm.mem_iff.mp h)) ((pm.nodup_iff).mpr hnd))
    have jn : ∀ (ms : List Nat) (j : Nat), ms.Perm ls → j ≤ 200 → rJoin (Str.ofString "") (Lw R) (.lst (ms.map chr)) (spend s j) := fun ms j pm hj => by
      have := pm.length_eq
      refine ⟨ms.map fun c => ⟨#[c]⟩, ?_, ?_, ?_⟩
      · rw [List.map_map]; rfl
      · rw [sempty, List.map_map, List.length_map]
        have e : ((fun x : Str => x.length) ∘ fun c => (⟨#[c]⟩ : Str)) = fun _ => 1 := by funext c; rfl
        rw [e]
        have := sum_le_mul (ns := ms.map fun _ => 1) (b := 1) fun n hn => by
          obtain ⟨_, _, rfl⟩ := List.mem_map.mp hn
          exact Nat.le_refl _
        rw [List.length_map] at this
        rw [mkS_len]
        simp only [List.length_nil, Nat.mul_zero, Nat.add_zero]
        omega
      · rw [sempty]; exact fin ms j pm hj
    have f1 : decide ((0 : Int) = 0) = true := rfl
    have g01 : ¬ (decide ((0 : Int) = 1) = true) := by decide
    have g02 : ¬ (decide ((0 : Int) = 2) = true) := by decide
    have g10 : ¬ (decide ((1 : Int) = 0) = true) := by decide
    have f11 : decide ((1 : Int) = 1) = true := rfl
    have g12 : ¬ (decide ((1 : Int) = 2) = true) := by decide
    have g20 : ¬ (decide ((2 : Int) = 0) = true) := by decide
    have g21 : ¬ (decide ((2 : Int) = 1) = true) := by decide
    have f22 : decide ((2 : Int) = 2) = true := rfl
    have g30 : ¬ (decide ((3 : Int) = 0) = true) := by decide
    have g31 : ¬ (decide ((3 : Int) = 1) = true) := by decide
    have g32 : ¬ (decide ((3 : Int) = 2) = true) := by decide
    have : i = 0 ∨ i = 1 ∨ i = 2 ∨ i = 3 := by omega
    rcases this with rfl | rfl | rfl | rfl
    · rw [if_pos f1, spMixed_iff]
      refine ⟨hp, hc, by omega, by simp only [spend_n]; omega, fun ms pm => ?_⟩
      rw [if_neg g01, if_neg g02, spend_spend]
      exact jn ms _ pm (by omega)
    · rw [if_neg g10, if_pos f11, if_neg g12, ← List.map_reverse]
      exact jn ls.reverse _ (List.reverse_perm ls) (by omega)
    · rw [if_neg g20, if_neg g21, if_pos f22, spFree_iff]
      refine ⟨hp, by omega, hc, by omega, by simp only [spend_n]; omega, fun ms pm => ?_⟩
      rw [spend_spend]
      exact jn ms _ pm (by omega)
    · rw [if_neg g30, if_neg g31, if_neg g32]
      exact jn ls _ (List.Perm.refl _) (by omega)
end Pr
namespace Pr
open PySem PySem.Spec PyProof.Rows L2 Dz
def spSame (n : Nat) : SpD := fun ws s R _ => ∃ w m, ws = [w, w] ∧ fit w m ∧ m < n ∧ m ≤ 64 ∧ R (.bl true) s
theorem e_law_same (n : Nat) : ∀ ws s R, spSame (n + 1) ws s R X0 → ws.length = 2 ∧ t_law_same (spSame n) { nx := fun _ s' => Lw R .non s', rt := Lw R } (Dz.startD N_law_same ws) s := by
  rintro ws s R ⟨w, m, rfl, hf, hm, h6, hR⟩
  refine ⟨rfl, ?_⟩
  cases w with
  | non =>
    simp only [Dz.dSeq, Dz.dIf, Dz.dB, Dz.dOp, Dz.dUn, Dz.dVar, Dz.dC, Dz.dRet, Dz.dRetN, Dz.dNx, Dz.dBrk, Dz.dCnt, Dz.dAsg, Dz.dSet, Dz.dPar, Dz.dPar3, Dz.dgT, Dz.dgTt, Dz.dgCons, Dz.dgNil, Dz.dgN, Dz.dCall, Dz.dCons, Dz.dNil, Dz.dTup, Dz.dCB, Dz.dCN, Dz.dF, Dz.dM, Dz.dSz, Dz.dExpr, Dz.dNot, Dz.dAnd, Dz.dOr, Dz.dAndV, Dz.dOrV, Dz.dNotV, Dz.dIfE, Dz.dChain, Dz.dFrz, Dz.dIt, Dz.dRng1, Dz.dRng2, Dz.dSl, Dz.dNoPart, Dz.dPart, Dz.dCat, Dz.dRep, Dz.dLc, Dz.dFor, Dz.dAppend, Dz.dPop, Dz.dPopAt, Dz.rPopAtD, Dz.dSetIx, Dz.dYes, Dz.dRev, Dz.asI, Dz.asQ, Dz.asL, Dz.rIsN, Dz.rIs, Dz.rIsNot, Dz.isNon_d, Dz.isNon_non, Dz.isNon_tup, Dz.isNon_lst, Dz.isNon_str, Dz.isNon_int, Dz.isNon_bl, Dz.isNon_ref, Dz.isNon_dic, Dz.isNon_ty, Dz.rAddU, Dz.rSub, Dz.rMod, Dz.rDiv, Dz.rPow, Dz.rLt, Dz.rLe, Dz.rGt, Dz.rGe, Dz.rEq, Dz.rNe, Dz.rEqv, Dz.rInt2, Dz.rMax2, Dz.rMin2, Dz.rI, Dz.rCmp, Dz.rIxU, Dz.rAbs, Dz.rToInt, Dz.rListU, Dz.rSlU, Dz.trk, Dz.rLenU, Dz.rMulU, Dz.rNeg, Dz.startD, Dz.wipeD, Dz.Tr.d, Dz.Sg.put_M, Dz.Sg.put_n, Dz.Sg.put_pv, Dz.Sg.del_M, Dz.Sg.del_n, Dz.Sg.del_pv, Dz.Mm.put_same, Dz.Mm.put_put, Dz.Sg.put_put, Dz.Mm.put_ne, Dz.Mm.del_ne, Dz.rIsi, Dz.tyN, Dz.tyNames, Dz.isiT, Dz.subT, Dz.tyOk, Dz.tyNames, Dz.pyOf, Dz.toPy, Dz.toPys, Dz.Sg.put_mk, Dz.Sg.del_mk, Dz.spend_M, Dz.spend_pv, Dz.spend_n, Dz.spend_spend, Dz.spend_put, Dz.spend_del, Dz.spNext_iff, Dz.asI_lst, Dz.asI_tup, Dz.dFJ, Dz.dJs, Dz.dFmt, Dz.Tr.isNil, List.map_cons, List.map_nil, List.length_cons, List.length_nil, List.length_map, List.length_set, List.replicate, Nat.reduceSub, Nat.reduceAdd, List.cons_append, List.nil_append, List.getElem?_cons_zero, List.getElem?_cons_succ, List.set_cons_zero, List.set_cons_succ, if_true, if_false, Bool.false_eq_true, id, Nat.sub_zero, Bool.not_true, Bool.not_false, true_and, and_true, ne_eq, not_false_eq_true, not_true_eq_false, reduceCtorEq, Option.map_some, Option.bind_some, String.reduceBEq, Bool.or_false, Bool.or_true, Bool.false_or, Bool.true_or, Bool.and_true, Bool.and_false, Bool.true_and, Bool.false_and, decide_true, decide_false, List.all_cons, List.all_nil, List.any_cons, List.any_nil, beq_self_eq_true, t_law_same]
    exact ⟨by decide, .of hR⟩
  | bl b =>
    simp only [Dz.dSeq, Dz.dIf, Dz.dB, Dz.dOp, Dz.dUn, Dz.dVar, Dz.dC, Dz.dRet, Dz.dRetN, Dz.dNx, Dz.dBrk, Dz.dCnt, Dz.dAsg, Dz.dSet, Dz.dPar, Dz.dPar3, Dz.dgT, Dz.dgTt, Dz.dgCons, Dz.dgNil, Dz.dgN, Dz.dCall, Dz.dCons, Dz.dNil, Dz.dTup, Dz.dCB, Dz.dCN, Dz.dF, Dz.dM, Dz.dSz, Dz.dExpr, Dz.dNot, Dz.dAnd, Dz.dOr, Dz.dAndV, Dz.dOrV, Dz.dNotV, Dz.dIfE, Dz.dChain, Dz.dFrz, Dz.dIt, Dz.dRng1, Dz.dRng2, Dz.dSl, Dz.dNoPart, Dz.dPart, Dz.dCat, Dz.dRep, Dz.dLc, Dz.dFor, Dz.dAppend, Dz.dPop, Dz.dPopAt, Dz.rPopAtD, Dz.dSetIx, Dz.dYes, Dz.dRev, Dz.asI, Dz.asQ, Dz.asL, Dz.rIsN, Dz.rIs, Dz.rIsNot, Dz.isNon_d, Dz.isNon_non, Dz.isNon_tup, Dz.isNon_lst, Dz.isNon_str, Dz.isNon_int, Dz.isNon_bl, Dz.isNon_ref, Dz.isNon_dic, Dz.isNon_ty, Dz.rAddU, Dz.rSub, Dz.rMod, Dz.rDiv, Dz.rPow, Dz.rLt, Dz.rLe, Dz.rGt, Dz.rGe, Dz.rEq, Dz.rNe, Dz.rEqv, Dz.rInt2, Dz.rMax2, Dz.rMin2, Dz.rI, Dz.rCmp, Dz.rIxU, Dz.rAbs, Dz.rToInt, Dz.rListU, Dz.rSlU, Dz.trk, Dz.rLenU, Dz.rMulU, Dz.rNeg, Dz.startD, Dz.wipeD, Dz.Tr.d, Dz.Sg.put_M, Dz.Sg.put_n, Dz.Sg.put_pv, Dz.Sg.del_M, Dz.Sg.del_n, Dz.Sg.del_pv, Dz.Mm.put_same, Dz.Mm.put_put, Dz.Sg.put_put, Dz.Mm.put_ne, Dz.Mm.del_ne, Dz.rIsi, Dz.tyN, Dz.tyNames, Dz.isiT, Dz.subT, Dz.tyOk, Dz.tyNames, Dz.pyOf, Dz.toPy, Dz.toPys, Dz.Sg.put_mk, Dz.Sg.del_mk, Dz.spend_M, Dz.spend_pv, Dz.spend_n, Dz.spend_spend, Dz.spend_put, Dz.spend_del, Dz.spNext_iff, Dz.asI_lst, Dz.asI_tup, Dz.dFJ, Dz.dJs, Dz.dFmt, Dz.Tr.isNil, List.map_cons, List.map_nil, List.length_cons, List.length_nil, List.length_map, List.length_set, List.replicate, Nat.reduceSub, Nat.reduceAdd, List.cons_append, List.nil_append, List.getElem?_cons_zero, List.getElem?_cons_succ, List.set_cons_zero, List.set_cons_succ, if_true, if_false, Bool.false_eq_true, id, Nat.sub_zero, Bool.not_true, Bool.not_false, true_and, and_true, ne_eq, not_false_eq_true, not_true_eq_false, reduceCtorEq, Option.map_some, Option.bind_some, String.reduceBEq, Bool.or_false, Bool.or_true, Bool.false_or, Bool.true_or, Bool.and_true, Bool.and_false, Bool.true_and, Bool.false_and, decide_true, decide_false, List.all_cons, List.all_nil, List.any_cons, List.any_nil, beq_self_eq_true, t_law_same]
    exact ⟨by decide, .of hR⟩
  | int i =>
    simp only [Dz.dSeq, Dz.dIf, Dz.dB, Dz.dOp, Dz.dUn, Dz.dVar, Dz.dC, Dz.dRet, Dz.dRetN, Dz.dNx, Dz.dBrk, Dz.dCnt, Dz.dAsg, Dz.dSet, Dz.dPar, Dz.dPar3, Dz.dgT, Dz.dgTt, Dz.dgCons, Dz.dgNil, Dz.dgN, Dz.dCall, Dz.dCons, Dz.dNil, Dz.dTup, Dz.dCB, Dz.dCN, Dz.dF, Dz.dM, Dz.dSz, Dz.dExpr, Dz.dNot, Dz.dAnd, Dz.dOr, Dz.dAndV, Dz.dOrV, Dz.dNotV, Dz.dIfE, Dz.dChain, Dz.dFrz, Dz.dIt, Dz.dRng1, Dz.dRng2, Dz.dSl, Dz.dNoPart, Dz.dPart, Dz.dCat, Dz.dRep, Dz.dLc, Dz.dFor, Dz.dAppend, Dz.dPop, Dz.dPopAt, Dz.rPopAtD, Dz.dSetIx, Dz.dYes, Dz.dRev, Dz.asI, Dz.asQ, Dz.asL, Dz.rIsN, Dz.rIs, Dz.rIsNot, Dz.isNon_d, Dz.isNon_non, Dz.isNon_tup, Dz.isNon_lst, Dz.isNon_str, Dz.isNon_int, Dz.isNon_bl, Dz.isNon_ref, Dz.isNon_dic, Dz.isNon_ty, Dz.rAddU, Dz.rSub, Dz.rMod, Dz.rDiv, Dz.rPow, Dz.rLt, Dz.rLe, Dz.rGt, Dz.rGe, Dz.rEq, Dz.rNe, Dz.rEqv, Dz.rInt2, Dz.rMax2, Dz.rMin2, Dz.rI, Dz.rCmp, Dz.rIxU, Dz.rAbs, Dz.rToInt, Dz.rListU, Dz.rSlU, Dz.trk, Dz.rLenU, Dz.rMulU, Dz.rNeg, Dz.startD, Dz.wipeD, Dz.Tr.d, Dz.Sg.put_M, Dz.Sg.put_n, Dz.Sg.put_pv, Dz.Sg.del_M, Dz.Sg.del_n, Dz.Sg.del_pv, Dz.Mm.put_same, Dz.Mm.put_put, Dz.Sg.put_put, Dz.Mm.put_ne, Dz.Mm.del_ne, Dz.rIsi, Dz.tyN, Dz.tyNames, Dz.isiT, Dz.subT, Dz.tyOk, Dz.tyNames, Dz.pyOf, Dz.toPy, Dz.toPys, Dz.Sg.put_mk, Dz.Sg.del_mk, Dz.spend_M, Dz.spend_pv, Dz.spend_n, Dz.spend_spend, Dz.spend_put, Dz.spend_del, Dz.spNext_iff, Dz.asI_lst, Dz.asI_tup, Dz.dFJ, Dz.dJs, Dz.dFmt, Dz.Tr.isNil, List.map_cons, List.map_nil, List.length_cons, List.length_nil, List.length_map, List.length_set, List.replicate, Nat.reduceSub, Nat.reduceAdd, List.cons_append, List.nil_append, List.getElem?_cons_zero, List.getElem?_cons_succ, List.set_cons_zero, List.set_cons_succ, if_true, if_false, Bool.false_eq_true, id, Nat.sub_zero, Bool.not_true, Bool.not_false, true_and, and_true, ne_eq, not_false_eq_true, not_true_eq_false, reduceCtorEq, Option.map_some, Option.bind_some, String.reduceBEq, Bool.or_false, Bool.or_true, Bool.false_or, Bool.true_or, Bool.and_true, Bool.and_false, Bool.true_and, Bool.false_and, decide_true, decide_false, List.all_cons, List.all_nil, List.any_cons, List.any_nil, beq_self_eq_true, t_law_same]
    exact ⟨by decide, .of hR⟩
  | str i =>
    simp only [Dz.dSeq, Dz.dIf, Dz.dB, Dz.dOp, Dz.dUn, Dz.dVar, Dz.dC, Dz.dRet, Dz.dRetN, Dz.dNx, Dz.dBrk, Dz.dCnt, Dz.dAsg, Dz.dSet, Dz.dPar, Dz.dPar3, Dz.dgT, Dz.dgTt, Dz.dgCons, Dz.dgNil, Dz.dgN, Dz.dCall, Dz.dCons, Dz.dNil, Dz.dTup, Dz.dCB, Dz.dCN, Dz.dF, Dz.dM, Dz.dSz, Dz.dExpr, Dz.dNot, Dz.dAnd, Dz.dOr, Dz.dAndV, Dz.dOrV, Dz.dNotV, Dz.dIfE, Dz.dChain, Dz.dFrz, Dz.dIt, Dz.dRng1, Dz.dRng2, Dz.dSl, Dz.dNoPart, Dz.dPart, Dz.dCat, Dz.dRep, Dz.dLc, Dz.dFor, Dz.dAppend, Dz.dPop, Dz.dPopAt, Dz.rPopAtD, Dz.dSetIx, Dz.dYes, Dz.dRev, Dz.asI, Dz.asQ, Dz.asL, Dz.rIsN, Dz.rIs, Dz.rIsNot, Dz.isNon_d, Dz.isNon_non, Dz.isNon_tup, Dz.isNon_lst, Dz.isNon_str, Dz.isNon_int, Dz.isNon_bl, Dz.isNon_ref, Dz.isNon_dic, Dz.isNon_ty, Dz.rAddU, Dz.rSub, Dz.rMod, Dz.rDiv, Dz.rPow, Dz.rLt, Dz.rLe, Dz.rGt, Dz.rGe, Dz.rEq, Dz.rNe, Dz.rEqv, Dz.rInt2, Dz.rMax2, Dz.rMin2, Dz.rI, Dz.rCmp, Dz.rIxU, Dz.rAbs, Dz.rToInt, Dz.rListU, Dz.rSlU, Dz.trk, Dz.rLenU, Dz.rMulU, Dz.rNeg, Dz.startD, Dz.wipeD, Dz.Tr.d, Dz.Sg.put_M, Dz.Sg.put_n, Dz.Sg.put_pv, Dz.Sg.del_M, Dz.Sg.del_n, Dz.Sg.del_pv, Dz.Mm.put_same, Dz.Mm.put_put, Dz.Sg.put_put, Dz.Mm.put_ne, Dz.Mm.del_ne, Dz.rIsi, Dz.tyN, Dz.tyNames, Dz.isiT, Dz.subT, Dz.tyOk, Dz.tyNames, Dz.pyOf, Dz.toPy, Dz.toPys, Dz.Sg.put_mk, Dz.Sg.del_mk, Dz.spend_M, Dz.spend_pv, Dz.spend_n, Dz.spend_spend, Dz.spend_put, Dz.spend_del, Dz.spNext_iff, Dz.asI_lst, Dz.asI_tup, Dz.dFJ, Dz.dJs, Dz.dFmt, Dz.Tr.isNil, List.map_cons, List.map_nil, List.length_cons, List.length_nil, List.length_map, List.length_set, List.replicate, Nat.reduceSub, Nat.reduceAdd, List.cons_append, List.nil_append, List.getElem?_cons_zero, List.getElem?_cons_succ, List.set_cons_zero, List.set_cons_succ, if_true, if_false, Bool.false_eq_true, id, Nat.sub_zero, Bool.not_true, Bool.not_false, true_and, and_true, ne_eq, not_false_eq_true, not_true_eq_false, reduceCtorEq, Option.map_some, Option.bind_some, String.reduceBEq, Bool.or_false, Bool.or_true, Bool.false_or, Bool.true_or, Bool.and_true, Bool.and_false, Bool.true_and, Bool.false_and, decide_true, decide_false, List.all_cons, List.all_nil, List.any_cons, List.any_nil, beq_self_eq_true, t_law_same]
    exact ⟨by decide, .of hR⟩
  | tup ws =>
    have hf' : 0 < m ∧ ws.length ≤ 100000 ∧ fits ws (m - 1) := hf
    simp only [Dz.dSeq, Dz.dIf, Dz.dB, Dz.dOp, Dz.dUn, Dz.dVar, Dz.dC, Dz.dRet, Dz.dRetN, Dz.dNx, Dz.dBrk, Dz.dCnt, Dz.dAsg, Dz.dSet, Dz.dPar, Dz.dPar3, Dz.dgT, Dz.dgTt, Dz.dgCons, Dz.dgNil, Dz.dgN, Dz.dCall, Dz.dCons, Dz.dNil, Dz.dTup, Dz.dCB, Dz.dCN, Dz.dF, Dz.dM, Dz.dSz, Dz.dExpr, Dz.dNot, Dz.dAnd, Dz.dOr, Dz.dAndV, Dz.dOrV, Dz.dNotV, Dz.dIfE, Dz.dChain, Dz.dFrz, Dz.dIt, Dz.dRng1, Dz.dRng2, Dz.dSl, Dz.dNoPart, Dz.dPart, Dz.dCat, Dz.dRep, Dz.dLc, Dz.dFor, Dz.dAppend, Dz.dPop, Dz.dPopAt, Dz.rPopAtD, Dz.dSetIx, Dz.dYes, Dz.dRev, Dz.asI, Dz.asQ, Dz.asL, Dz.rIsN, Dz.rIs, Dz.rIsNot, Dz.isNon_d, Dz.isNon_non, Dz.isNon_tup, Dz.isNon_lst, Dz.isNon_str, Dz.isNon_int, Dz.isNon_bl, Dz.isNon_ref, Dz.isNon_dic, Dz.isNon_ty, Dz.rAddU, Dz.rSub, Dz.rMod, Dz.rDiv, Dz.rPow, Dz.rLt, Dz.rLe, Dz.rGt, Dz.rGe, Dz.rEq, Dz.rNe, Dz.rEqv, Dz.rInt2, Dz.rMax2, Dz.rMin2, Dz.rI, Dz.rCmp, Dz.rIxU, Dz.rAbs, Dz.rToInt, Dz.rListU, Dz.rSlU, Dz.trk, Dz.rLenU, Dz.rMulU, Dz.rNeg, Dz.startD, Dz.wipeD, Dz.Tr.d, Dz.Sg.put_M, Dz.Sg.put_n, Dz.Sg.put_pv, Dz.Sg.del_M, Dz.Sg.del_n, Dz.Sg.del_pv, Dz.Mm.put_same, Dz.Mm.put_put, Dz.Sg.put_put, Dz.Mm.put_ne, Dz.Mm.del_ne, Dz.rIsi, Dz.tyN, Dz.tyNames, Dz.isiT, Dz.subT, Dz.tyOk, Dz.tyNames, Dz.pyOf, Dz.toPy, Dz.toPys, Dz.Sg.put_mk, Dz.Sg.del_mk, Dz.spend_M, Dz.spend_pv, Dz.spend_n, Dz.spend_spend, Dz.spend_put, Dz.spend_del, Dz.spNext_iff, Dz.asI_lst, Dz.asI_tup, Dz.dFJ, Dz.dJs, Dz.dFmt, Dz.Tr.isNil, List.map_cons, List.map_nil, List.length_cons, List.length_nil, List.length_map, List.length_set, List.replicate, Nat.reduceSub, Nat.reduceAdd, List.cons_append, List.nil_append, List.getElem?_cons_zero, List.getElem?_cons_succ, List.set_cons_zero, List.set_cons_succ, if_true, if_false, Bool.false_eq_true, id, Nat.sub_zero, Bool.not_true, Bool.not_false, true_and, and_true, ne_eq, not_false_eq_true, not_true_eq_false, reduceCtorEq, Option.map_some, Option.bind_some, String.reduceBEq, Bool.or_false, Bool.or_true, Bool.false_or, Bool.true_or, Bool.and_true, Bool.and_false, Bool.true_and, Bool.false_and, decide_true, decide_false, List.all_cons, List.all_nil, List.any_cons, List.any_nil, beq_self_eq_true, t_law_same]
    refine ⟨by decide, by omega, by omega, ?_⟩
    refine lc_pure (fun _ => none) rfl ?_ (by rw [rg_len, List.length_nil]; omega) ?_
    · rintro x hx k B hk
      obtain ⟨j, hj, rfl⟩ := rg_mem hx
      have hj2 : j < ws.length := by omega
      have e : L2.atI ws (0 + (j : Int)) = some ws[j] := by
        rw [atI_nat (by omega) (by omega), show (0 + (j : Int)).toNat = j by omega]
        simp [hj2]
      simp only [Dz.dSeq, Dz.dIf, Dz.dB, Dz.dOp, Dz.dUn, Dz.dVar, Dz.dC, Dz.dRet, Dz.dRetN, Dz.dNx, Dz.dBrk, Dz.dCnt, Dz.dAsg, Dz.dSet, Dz.dPar, Dz.dPar3, Dz.dgT, Dz.dgTt, Dz.dgCons, Dz.dgNil, Dz.dgN, Dz.dCall, Dz.dCons, Dz.dNil, Dz.dTup, Dz.dCB, Dz.dCN, Dz.dF, Dz.dM, Dz.dSz, Dz.dExpr, Dz.dNot, Dz.dAnd, Dz.dOr, Dz.dAndV, Dz.dOrV, Dz.dNotV, Dz.dIfE, Dz.dChain, Dz.dFrz, Dz.dIt, Dz.dRng1, Dz.dRng2, Dz.dSl, Dz.dNoPart, Dz.dPart, Dz.dCat, Dz.dRep, Dz.dLc, Dz.dFor, Dz.dAppend, Dz.dPop, Dz.dPopAt, Dz.rPopAtD, Dz.dSetIx, Dz.dYes, Dz.dRev, Dz.asI, Dz.asQ, Dz.asL, Dz.rIsN, Dz.rIs, Dz.rIsNot, Dz.isNon_d, Dz.isNon_non, Dz.isNon_tup, Dz.isNon_lst, Dz.isNon_str, Dz.isNon_int, Dz.isNon_bl, Dz.isNon_ref, Dz.isNon_dic, Dz.isNon_ty, Dz.rAddU, Dz.rSub, Dz.rMod, Dz.rDiv, Dz.rPow, Dz.rLt, Dz.rLe, Dz.rGt, Dz.rGe, Dz.rEq, Dz.rNe, Dz.rEqv, Dz.rInt2, Dz.rMax2, Dz.rMin2, Dz.rI, Dz.rCmp, Dz.rIxU, Dz.rAbs, Dz.rToInt, Dz.rListU, Dz.rSlU, Dz.trk, Dz.rLenU, Dz.rMulU, Dz.rNeg, Dz.startD, Dz.wipeD, Dz.Tr.d, Dz.Sg.put_M, Dz.Sg.put_n, Dz.Sg.put_pv, Dz.Sg.del_M, Dz.Sg.del_n, Dz.Sg.del_pv, Dz.Mm.put_same, Dz.Mm.put_put, Dz.Sg.put_put, Dz.Mm.put_ne, Dz.Mm.del_ne, Dz.rIsi, Dz.tyN, Dz.tyNames, Dz.isiT, Dz.subT, Dz.tyOk, Dz.tyNames, Dz.pyOf, Dz.toPy, Dz.toPys, Dz.Sg.put_mk, Dz.Sg.del_mk, Dz.spend_M, Dz.spend_pv, Dz.spend_n, Dz.spend_spend, Dz.spend_put, Dz.spend_del, Dz.spNext_iff, Dz.asI_lst, Dz.asI_tup, Dz.dFJ, Dz.dJs, Dz.dFmt, Dz.Tr.isNil, List.map_cons, List.map_nil, List.length_cons, List.length_nil, List.length_map, List.length_set, List.replicate, Nat.reduceSub, Nat.reduceAdd, List.cons_append, List.nil_append, List.getElem?_cons_zero, List.getElem?_cons_succ, List.set_cons_zero, List.set_cons_succ, if_true, if_false, Bool.false_eq_true, id, Nat.sub_zero, Bool.not_true, Bool.not_false, true_and, and_true, ne_eq, not_false_eq_true, not_true_eq_false, reduceCtorEq, Option.map_some, Option.bind_some, String.reduceBEq, Bool.or_false, Bool.or_true, Bool.false_or, Bool.true_or, Bool.and_true, Bool.and_false, Bool.true_and, Bool.false_and, decide_true, decide_false, List.all_cons, List.all_nil, List.any_cons, List.any_nil, beq_self_eq_true, e]
      refine ⟨ws[j], m - 1, rfl, fits_mem hf'.2.2 (List.getElem_mem _), by omega, by omega, ?_⟩
      simp only [Dz.dSeq, Dz.dIf, Dz.dB, Dz.dOp, Dz.dUn, Dz.dVar, Dz.dC, Dz.dRet, Dz.dRetN, Dz.dNx, Dz.dBrk, Dz.dCnt, Dz.dAsg, Dz.dSet, Dz.dPar, Dz.dPar3, Dz.dgT, Dz.dgTt, Dz.dgCons, Dz.dgNil, Dz.dgN, Dz.dCall, Dz.dCons, Dz.dNil, Dz.dTup, Dz.dCB, Dz.dCN, Dz.dF, Dz.dM, Dz.dSz, Dz.dExpr, Dz.dNot, Dz.dAnd, Dz.dOr, Dz.dAndV, Dz.dOrV, Dz.dNotV, Dz.dIfE, Dz.dChain, Dz.dFrz, Dz.dIt, Dz.dRng1, Dz.dRng2, Dz.dSl, Dz.dNoPart, Dz.dPart, Dz.dCat, Dz.dRep, Dz.dLc, Dz.dFor, Dz.dAppend, Dz.dPop, Dz.dPopAt, Dz.rPopAtD, Dz.dSetIx, Dz.dYes, Dz.dRev, Dz.asI, Dz.asQ, Dz.asL, Dz.rIsN, Dz.rIs, Dz.rIsNot, Dz.isNon_d, Dz.isNon_non, Dz.isNon_tup, Dz.isNon_lst, Dz.isNon_str, Dz.isNon_int, Dz.isNon_bl, Dz.isNon_ref, Dz.isNon_dic, Dz.isNon_ty, Dz.rAddU, Dz.rSub, Dz.rMod, Dz.rDiv, Dz.rPow, Dz.rLt, Dz.rLe, Dz.rGt, Dz.rGe, Dz.rEq, Dz.rNe, Dz.rEqv, Dz.rInt2, Dz.rMax2, Dz.rMin2, Dz.rI, Dz.rCmp, Dz.rIxU, Dz.rAbs, Dz.rToInt, Dz.rListU, Dz.rSlU, Dz.trk, Dz.rLenU, Dz.rMulU, Dz.rNeg, Dz.startD, Dz.wipeD, Dz.Tr.d, Dz.Sg.put_M, Dz.Sg.put_n, Dz.Sg.put_pv, Dz.Sg.del_M, Dz.Sg.del_n, Dz.Sg.del_pv, Dz.Mm.put_same, Dz.Mm.put_put, Dz.Sg.put_put, Dz.Mm.put_ne, Dz.Mm.del_ne, Dz.rIsi, Dz.tyN, Dz.tyNames, Dz.isiT, Dz.subT, Dz.tyOk, Dz.tyNames, Dz.pyOf, Dz.toPy, Dz.toPys, Dz.Sg.put_mk, Dz.Sg.del_mk, Dz.spend_M, Dz.spend_pv, Dz.spend_n, Dz.spend_spend, Dz.spend_put, Dz.spend_del, Dz.spNext_iff, Dz.asI_lst, Dz.asI_tup, Dz.dFJ, Dz.dJs, Dz.dFmt, Dz.Tr.isNil, List.map_cons, List.map_nil, List.length_cons, List.length_nil, List.length_map, List.length_set, List.replicate, Nat.reduceSub, Nat.reduceAdd, List.cons_append, List.nil_append, List.getElem?_cons_zero, List.getElem?_cons_succ, List.set_cons_zero, List.set_cons_succ, if_true, if_false, Bool.false_eq_true, id, Nat.sub_zero, Bool.not_true, Bool.not_false, true_and, and_true, ne_eq, not_false_eq_true, not_true_eq_false, reduceCtorEq, Option.map_some, Option.bind_some, String.reduceBEq, Bool.or_false, Bool.or_true, Bool.false_or, Bool.true_or, Bool.and_true, Bool.and_false, Bool.true_and, Bool.false_and, decide_true, decide_false, List.all_cons, List.all_nil, List.any_cons, List.any_nil, beq_self_eq_true]
      exact hk
    · rw [show (List.filterMap (fun _ => none) (rg 0 (ws.length : Int).toNat) : List D) = [] by simp]
      exact ⟨by decide, rfl, rfl, .of hR⟩
  | lst ws =>
    have hf' : 0 < m ∧ ws.length ≤ 100000 ∧ fits ws (m - 1) := hf
    simp only [Dz.dSeq, Dz.dIf, Dz.dB, Dz.dOp, Dz.dUn, Dz.dVar, Dz.dC, Dz.dRet, Dz.dRetN, Dz.dNx, Dz.dBrk, Dz.dCnt, Dz.dAsg, Dz.dSet, Dz.dPar, Dz.dPar3, Dz.dgT, Dz.dgTt, Dz.dgCons, Dz.dgNil, Dz.dgN, Dz.dCall, Dz.dCons, Dz.dNil, Dz.dTup, Dz.dCB, Dz.dCN, Dz.dF, Dz.dM, Dz.dSz, Dz.dExpr, Dz.dNot, Dz.dAnd, Dz.dOr, Dz.dAndV, Dz.dOrV, Dz.dNotV, Dz.dIfE, Dz.dChain, Dz.dFrz, Dz.dIt, Dz.dRng1, Dz.dRng2, Dz.dSl, Dz.dNoPart, Dz.dPart, Dz.dCat, Dz.dRep, Dz.dLc, Dz.dFor, Dz.dAppend, Dz.dPop, Dz.dPopAt, Dz.rPopAtD, Dz.dSetIx, Dz.dYes, Dz.dRev, Dz.asI, Dz.asQ, Dz.asL, Dz.rIsN, Dz.rIs, Dz.rIsNot, Dz.isNon_d, Dz.isNon_non, Dz.isNon_tup, Dz.isNon_lst, Dz.isNon_str, Dz.isNon_int, Dz.isNon_bl, Dz.isNon_ref, Dz.isNon_dic, Dz.isNon_ty, Dz.rAddU, Dz.rSub, Dz.rMod, Dz.rDiv, Dz.rPow, Dz.rLt, Dz.rLe, Dz.rGt, Dz.rGe, Dz.rEq, Dz.rNe, Dz.rEqv, Dz.rInt2, Dz.rMax2, Dz.rMin2, Dz.rI, Dz.rCmp, Dz.rIxU, Dz.rAbs, Dz.rToInt, Dz.rListU, Dz.rSlU, Dz.trk, Dz.rLenU, Dz.rMulU, Dz.rNeg, Dz.startD, Dz.wipeD, Dz.Tr.d, Dz.Sg.put_M, Dz.Sg.put_n, Dz.Sg.put_pv, Dz.Sg.del_M, Dz.Sg.del_n, Dz.Sg.del_pv, Dz.Mm.put_same, Dz.Mm.put_put, Dz.Sg.put_put, Dz.Mm.put_ne, Dz.Mm.del_ne, Dz.rIsi, Dz.tyN, Dz.tyNames, Dz.isiT, Dz.subT, Dz.tyOk, Dz.tyNames, Dz.pyOf, Dz.toPy, Dz.toPys, Dz.Sg.put_mk, Dz.Sg.del_mk, Dz.spend_M, Dz.spend_pv, Dz.spend_n, Dz.spend_spend, Dz.spend_put, Dz.spend_del, Dz.spNext_iff, Dz.asI_lst, Dz.asI_tup, Dz.dFJ, Dz.dJs, Dz.dFmt, Dz.Tr.isNil, List.map_cons, List.map_nil, List.length_cons, List.length_nil, List.length_map, List.length_set, List.replicate, Nat.reduceSub, Nat.reduceAdd, List.cons_append, List.nil_append, List.getElem?_cons_zero, List.getElem?_cons_succ, List.set_cons_zero, List.set_cons_succ, if_true, if_false, Bool.false_eq_true, id, Nat.sub_zero, Bool.not_true, Bool.not_false, true_and, and_true, ne_eq, not_false_eq_true, not_true_eq_false, reduceCtorEq, Option.map_some, Option.bind_some, String.reduceBEq, Bool.or_false, Bool.or_true, Bool.false_or, Bool.true_or, Bool.and_true, Bool.and_false, Bool.true_and, Bool.false_and, decide_true, decide_false, List.all_cons, List.all_nil, List.any_cons, List.any_nil, beq_self_eq_true, t_law_same]
    refine ⟨by decide, by omega, by omega, ?_⟩
    refine lc_pure (fun _ => none) rfl ?_ (by rw [rg_len, List.length_nil]; omega) ?_
    · rintro x hx k B hk
      obtain ⟨j, hj, rfl⟩ := rg_mem hx
      have hj2 : j < ws.length := by omega
      have e : L2.atI ws (0 + (j : Int)) = some ws[j] := by
        rw [atI_nat (by omega) (by omega), show (0 + (j : Int)).toNat = j by omega]
        simp [hj2]
      simp only [Dz.dSeq, Dz.dIf, Dz.dB, Dz.dOp, Dz.dUn, Dz.dVar, Dz.dC, Dz.dRet, Dz.dRetN, Dz.dNx, Dz.dBrk, Dz.dCnt, Dz.dAsg, Dz.dSet, Dz.dPar, Dz.dPar3, Dz.dgT, Dz.dgTt, Dz.dgCons, Dz.dgNil, Dz.dgN, Dz.dCall, Dz.dCons, Dz.dNil, Dz.dTup, Dz.dCB, Dz.dCN, Dz.dF, Dz.dM, Dz.dSz, Dz.dExpr, Dz.dNot, Dz.dAnd, Dz.dOr, Dz.dAndV, Dz.dOrV, Dz.dNotV, Dz.dIfE, Dz.dChain, Dz.dFrz, Dz.dIt, Dz.dRng1, Dz.dRng2, Dz.dSl, Dz.dNoPart, Dz.dPart, Dz.dCat, Dz.dRep, Dz.dLc, Dz.dFor, Dz.dAppend, Dz.dPop, Dz.dPopAt, Dz.rPopAtD, Dz.dSetIx, Dz.dYes, Dz.dRev, Dz.asI, Dz.asQ, Dz.asL, Dz.rIsN, Dz.rIs, Dz.rIsNot, Dz.isNon_d, Dz.isNon_non, Dz.isNon_tup, Dz.isNon_lst, Dz.isNon_str, Dz.isNon_int, Dz.isNon_bl, Dz.isNon_ref, Dz.isNon_dic, Dz.isNon_ty, Dz.rAddU, Dz.rSub, Dz.rMod, Dz.rDiv, Dz.rPow, Dz.rLt, Dz.rLe, Dz.rGt, Dz.rGe, Dz.rEq, Dz.rNe, Dz.rEqv, Dz.rInt2, Dz.rMax2, Dz.rMin2, Dz.rI, Dz.rCmp, Dz.rIxU, Dz.rAbs, Dz.rToInt, Dz.rListU, Dz.rSlU, Dz.trk, Dz.rLenU, Dz.rMulU, Dz.rNeg, Dz.startD, Dz.wipeD, Dz.Tr.d, Dz.Sg.put_M, Dz.Sg.put_n, Dz.Sg.put_pv, Dz.Sg.del_M, Dz.Sg.del_n, Dz.Sg.del_pv, Dz.Mm.put_same, Dz.Mm.put_put, Dz.Sg.put_put, Dz.Mm.put_ne, Dz.Mm.del_ne, Dz.rIsi, Dz.tyN, Dz.tyNames, Dz.isiT, Dz.subT, Dz.tyOk, Dz.tyNames, Dz.pyOf, Dz.toPy, Dz.toPys, Dz.Sg.put_mk, Dz.Sg.del_mk, Dz.spend_M, Dz.spend_pv, Dz.spend_n, Dz.spend_spend, Dz.spend_put, Dz.spend_del, Dz.spNext_iff, Dz.asI_lst, Dz.asI_tup, Dz.dFJ, Dz.dJs, Dz.dFmt, Dz.Tr.isNil, List.map_cons, List.map_nil, List.length_cons, List.length_nil, List.length_map, List.length_set, List.replicate, Nat.reduceSub, Nat.reduceAdd, List.cons_append, List.nil_append, List.getElem?_cons_zero, List.getElem?_cons_succ, List.set_cons_zero, List.set_cons_succ, if_true, if_false, Bool.false_eq_true, id, Nat.sub_zero, Bool.not_true, Bool.not_false, true_and, and_true, ne_eq, not_false_eq_true, not_true_eq_false, reduceCtorEq, Option.map_some, Option.bind_some, String.reduceBEq, Bool.or_false, Bool.or_true, Bool.false_or, Bool.true_or, Bool.and_true, Bool.and_false, Bool.true_and, Bool.false_and, decide_true, decide_false, List.all_cons, List.all_nil, List.any_cons, List.any_nil, beq_self_eq_true, e]
      refine ⟨ws[j], m - 1, rfl, fits_mem hf'.2.2 (List.getElem_mem _), by omega, by omega, ?_⟩
      simp only [Dz.dSeq, Dz.dIf, Dz.dB, Dz.dOp, Dz.dUn, Dz.dVar, Dz.dC, Dz.dRet, Dz.dRetN, Dz.dNx, Dz.dBrk, Dz.dCnt, Dz.dAsg, Dz.dSet, Dz.dPar, Dz.dPar3, Dz.dgT, Dz.dgTt, Dz.dgCons, Dz.dgNil, Dz.dgN, Dz.dCall, Dz.dCons, Dz.dNil, Dz.dTup, Dz.dCB, Dz.dCN, Dz.dF, Dz.dM, Dz.dSz, Dz.dExpr, Dz.dNot, Dz.dAnd, Dz.dOr, Dz.dAndV, Dz.dOrV, Dz.dNotV, Dz.dIfE, Dz.dChain, Dz.dFrz, Dz.dIt, Dz.dRng1, Dz.dRng2, Dz.dSl, Dz.dNoPart, Dz.dPart, Dz.dCat, Dz.dRep, Dz.dLc, Dz.dFor, Dz.dAppend, Dz.dPop, Dz.dPopAt, Dz.rPopAtD, Dz.dSetIx, Dz.dYes, Dz.dRev, Dz.asI, Dz.asQ, Dz.asL, Dz.rIsN, Dz.rIs, Dz.rIsNot, Dz.isNon_d, Dz.isNon_non, Dz.isNon_tup, Dz.isNon_lst, Dz.isNon_str, Dz.isNon_int, Dz.isNon_bl, Dz.isNon_ref, Dz.isNon_dic, Dz.isNon_ty, Dz.rAddU, Dz.rSub, Dz.rMod, Dz.rDiv, Dz.rPow, Dz.rLt, Dz.rLe, Dz.rGt, Dz.rGe, Dz.rEq, Dz.rNe, Dz.rEqv, Dz.rInt2, Dz.rMax2, Dz.rMin2, Dz.rI, Dz.rCmp, Dz.rIxU, Dz.rAbs, Dz.rToInt, Dz.rListU, Dz.rSlU, Dz.trk, Dz.rLenU, Dz.rMulU, Dz.rNeg, Dz.startD, Dz.wipeD, Dz.Tr.d, Dz.Sg.put_M, Dz.Sg.put_n, Dz.Sg.put_pv, Dz.Sg.del_M, Dz.Sg.del_n, Dz.Sg.del_pv, Dz.Mm.put_same, Dz.Mm.put_put, Dz.Sg.put_put, Dz.Mm.put_ne, Dz.Mm.del_ne, Dz.rIsi, Dz.tyN, Dz.tyNames, Dz.isiT, Dz.subT, Dz.tyOk, Dz.tyNames, Dz.pyOf, Dz.toPy, Dz.toPys, Dz.Sg.put_mk, Dz.Sg.del_mk, Dz.spend_M, Dz.spend_pv, Dz.spend_n, Dz.spend_spend, Dz.spend_put, Dz.spend_del, Dz.spNext_iff, Dz.asI_lst, Dz.asI_tup, Dz.dFJ, Dz.dJs, Dz.dFmt, Dz.Tr.isNil, List.map_cons, List.map_nil, List.length_cons, List.length_nil, List.length_map, List.length_set, List.replicate, Nat.reduceSub, Nat.reduceAdd, List.cons_append, List.nil_append, List.getElem?_cons_zero, List.getElem?_cons_succ, List.set_cons_zero, List.set_cons_succ, if_true, if_false, Bool.false_eq_true, id, Nat.sub_zero, Bool.not_true, Bool.not_false, true_and, and_true, ne_eq, not_false_eq_true, not_true_eq_false, reduceCtorEq, Option.map_some, Option.bind_some, String.reduceBEq, Bool.or_false, Bool.or_true, Bool.false_or, Bool.true_or, Bool.and_true, Bool.and_false, Bool.true_and, Bool.false_and, decide_true, decide_false, List.all_cons, List.all_nil, List.any_cons, List.any_nil, beq_self_eq_true]
      exact hk
    · rw [show (List.filterMap (fun _ => none) (rg 0 (ws.length : Int).toNat) : List D) = [] by simp]
      exact ⟨by decide, rfl, rfl, .of hR⟩
  | dic _ _ => exact hf.elim
  | ref _ => exact hf.elim
  | ty _ => exact hf.elim
end Pr
namespace Pr
open PySem PySem.Spec PyProof.Rows L2 Dz
/-! inserting letters -/
def ins : Tr → Nat → Tr
  | .nil, c => .node .nil c .nil
  | .node l a r, c => if c < a then .node (ins l c) a r else .node l a (ins r c)
def bld (ls : List Nat) : Tr := ls.foldl ins .nil
theorem ins_size : ∀ (t : Tr) (c : Nat), (ins t c).size = t.size + 1
  | .nil, c => rfl
  | .node l a r, c => by
    unfold ins
    split
    · simp only [Tr.size, ins_size l c]; omega
    · simp only [Tr.size, ins_size r c]; omega
theorem ins_all {p : Nat → Prop} {c : Nat} (hc : p c) : ∀ {t : Tr}, t.all p → (ins t c).all p
  | .nil, _ => ⟨trivial, hc, trivial⟩
  | .node l a r, h => by
    unfold ins
    split
    · exact ⟨ins_all hc h.1, h.2.1, h.2.2⟩
    · exact ⟨h.1, h.2.1, ins_all hc h.2.2⟩
theorem fold_size : ∀ (ls : List Nat) (t : Tr), (ls.foldl ins t).size = t.size + ls.length
  | [], t => rfl
  | c :: ls, t => by rw [List.foldl_cons, fold_size ls, ins_size, List.length_cons]; omega
theorem fold_all {p : Nat → Prop} : ∀ {ls : List Nat} {t : Tr}, (∀ c ∈ ls, p c) → t.all p → (ls.foldl ins t).all p
  | [], t, _, h => h
  | c :: ls, t, q, h => fold_all (ls := ls) (fun d hd => q d (List.mem_cons_of_mem _ hd)) (ins_all (q c List.mem_cons_self) h)
/-- smaller ones left, others right -/
def srt : Tr → Prop
  | .nil => True
  | .node l a r => srt l ∧ srt r ∧ l.all (· < a) ∧ r.all (a ≤ ·)
theorem ins_srt : ∀ {t : Tr} {c : Nat}, srt t → srt (ins t c)
  | .nil, c, _ => ⟨trivial, trivial, trivial, trivial⟩
  | .node l a r, c, h => by
    unfold ins
    split
    · rename_i e; exact ⟨ins_srt h.1, h.2.1, ins_all (p := (· < a)) e h.2.2.1, h.2.2.2⟩
    · rename_i e; exact ⟨h.1, ins_srt h.2.1, h.2.2.1, ins_all (p := (a ≤ ·)) (by omega) h.2.2.2⟩
theorem fold_srt : ∀ {ls : List Nat} {t : Tr}, srt t → srt (ls.foldl ins t)
  | [], t, h => h
  | c :: ls, t, h => fold_srt (ls := ls) (ins_srt h)
def pre : Tr → List Nat
  | .nil => []
  | .node l a r => a :: (pre l ++ pre r)
theorem pre_len : ∀ t : Tr, (pre t).length = t.size
  | .nil => rfl
  | .node l a r => by simp only [pre, List.length_cons, List.length_append, pre_len l, pre_len r, Tr.size]; omega
theorem pre_all {p : Nat → Prop} : ∀ {t : Tr}, t.all p → ∀ c ∈ pre t, p c
  | .nil, _, c, h => nomatch h
  | .node l a r, q, c, h => by
    simp only [pre, List.mem_cons, List.mem_append] at h
    rcases h with rfl | h | h
    · exact q.2.1
    · exact pre_all q.1 c h
    · exact pre_all q.2.2 c h
theorem fold_left {a : Nat} {r : Tr} : ∀ {ls : List Nat} {l : Tr}, (∀ c ∈ ls, c < a) → ls.foldl ins (.node l a r) = .node (ls.foldl ins l) a r
  | [], l, _ => rfl
  | c :: ls, l, h => by
    rw [List.foldl_cons, List.foldl_cons, ins, if_pos (h c List.mem_cons_self), fold_left fun d hd => h d (List.mem_cons_of_mem _ hd)]
theorem fold_right {a : Nat} {l : Tr} : ∀ {ls : List Nat} {r : Tr}, (∀ c ∈ ls, a ≤ c) → ls.foldl ins (.node l a r) = .node l a (ls.foldl ins r)
  | [], r, _ => rfl
  | c :: ls, r, h => by
    have := h c List.mem_cons_self
    rw [List.foldl_cons, List.foldl_cons, ins, if_neg (by omega), fold_right fun d hd => h d (List.mem_cons_of_mem _ hd)]
theorem bld_pre : ∀ {t : Tr}, srt t → bld (pre t) = t
  | .nil, _ => rfl
  | .node l a r, h => by
    show (pre l ++ pre r).foldl ins (ins .nil a) = _
    rw [List.foldl_append, show ins .nil a = .node .nil a .nil from rfl, fold_left (pre_all h.2.2.1), fold_right (pre_all h.2.2.2)]
    rw [show (pre l).foldl ins .nil = bld (pre l) from rfl, show (pre r).foldl ins .nil = bld (pre r) from rfl, bld_pre h.1, bld_pre h.2.1]
def has (z : Nat) : Tr → Prop
  | .nil => False
  | .node l a r => has z l ∨ z = a ∨ has z r
theorem has_all {p : Nat → Prop} {z : Nat} : ∀ {t : Tr}, t.all p → has z t → p z
  | .node l a r, q, h => by
    rcases h with h | rfl | h
    · exact has_all q.1 h
    · exact q.2.1
    · exact has_all q.2.2 h
theorem has_ins {z c : Nat} : ∀ {t : Tr}, has z t → has z (ins t c)
  | .node l a r, h => by
    unfold ins
    split
    · rcases h with h | h | h
      · exact .inl (has_ins h)
      · exact .inr (.inl h)
      · exact .inr (.inr h)
    · rcases h with h | h | h
      · exact .inl h
      · exact .inr (.inl h)
      · exact .inr (.inr (has_ins h))
theorem has_self {c : Nat} : ∀ {t : Tr}, has c (ins t c)
  | .nil => .inr (.inl rfl)
  | .node l a r => by
    unfold ins
    split
    · exact .inl has_self
    · exact .inr (.inr has_self)
theorem has_fold {z : Nat} : ∀ {ls : List Nat} {t : Tr}, has z t ∨ z ∈ ls → has z (ls.foldl ins t)
  | [], t, h => by rcases h with h | h; exact h; cases h
  | c :: ls, t, h => by
    refine has_fold (ls := ls) (t := ins t c) ?_
    rcases h with h | h
    · exact .inl (has_ins h)
    · rcases List.mem_cons.mp h with rfl | h
      · exact .inl has_self
      · exact .inr h
/-- two letters with one between that came before may be exchanged -/
theorem ins_comm {x y z : Nat} (hxz : x < z) (hzy : z < y) : ∀ {t : Tr}, srt t → has z t → ins (ins t x) y = ins (ins t y) x
  | .node l a r, hs, h => by
    by_cases h1 : x < a
    · by_cases h2 : y < a
      · have hz : has z l := by
          rcases h with h | rfl | h
          · exact h
          · omega
          · have := has_all hs.2.2.2 h; omega
        simp only [ins, if_pos h1, if_pos h2, ins_comm hxz hzy hs.1 hz]
      · simp only [ins, if_pos h1, if_neg h2]
    · have h2 : ¬ y < a := by omega
      have hz : has z r := by
        rcases h with h | rfl | h
        · have := has_all hs.2.2.1 h; omega
        · omega
        · exact h
      simp only [ins, if_neg h1, if_neg h2, ins_comm hxz hzy hs.2.1 hz]
theorem bld_swap {p q : List Nat} {x y z : Nat} (hz : z ∈ p) (h : (x < z ∧ z < y) ∨ (y < z ∧ z < x)) : bld (p ++ y :: x :: q) = bld (p ++ x :: y :: q) := by
  have hh : has z (p.foldl ins .nil) := has_fold (.inr hz)
  have hs : srt (p.foldl ins .nil) := fold_srt trivial
  unfold bld
  rw [List.foldl_append, List.foldl_append]
  simp only [List.foldl_cons]
  rcases h with h | h
  · rw [ins_comm h.1 h.2 hs hh]
  · rw [ins_comm h.1 h.2 hs hh]
/-! the defs -/
def spIns (n : Nat) : SpD := fun ws s R _ => ∃ (t : Tr) (c : Nat), ws = [t.d, chr c] ∧ t.depth < n ∧ R (ins t c).d s
theorem spIns_iff {n : Nat} {t : Tr} {c : Nat} {s : Sg} {R : KD} {E : XD} : spIns n [t.d, chr c] s R E ↔ t.depth < n ∧ R (ins t c).d s := by
  constructor
  · rintro ⟨u, c', e, h⟩
    simp only [List.cons.injEq, and_true] at e
    rw [Tr.d_inj e.1, chr_inj e.2]
    exact h
  · exact fun h => ⟨t, c, rfl, h⟩
theorem cmp1 {c a : Nat} {s : Sg} {R : KD} : rCmp (fun i j => decide (i < j)) (fun a b => decide (a < b)) (chr c) (chr a) s R ↔ R (.bl (decide (c < a))) s := by
  have e : decide ([c] < [a]) = decide (c < a) := by simp [List.cons_lt_cons_iff]
  show R (.bl (decide ([c] < [a]))) s ↔ _
  rw [e]
theorem e_law_put (n : Nat) : ∀ ws s R, spIns (n + 1) ws s R X0 → ws.length = 2 ∧ t_law_put (spIns n) { nx := fun _ s' => Lw R .non s', rt := Lw R } (Dz.startD N_law_put ws) s := by
  rintro ws s R ⟨t, c, rfl, hd, hR⟩
  refine ⟨rfl, ?_⟩
  cases t with
  | nil =>
    simp only [Dz.dSeq, Dz.dIf, Dz.dB, Dz.dOp, Dz.dUn, Dz.dVar, Dz.dC, Dz.dRet, Dz.dRetN, Dz.dNx, Dz.dBrk, Dz.dCnt, Dz.dAsg, Dz.dSet, Dz.dPar, Dz.dPar3, Dz.dgT, Dz.dgTt, Dz.dgCons, Dz.dgNil, Dz.dgN, Dz.dCall, Dz.dCons, Dz.dNil, Dz.dTup, Dz.dCB, Dz.dCN, Dz.dF, Dz.dM, Dz.dSz, Dz.dExpr, Dz.dNot, Dz.dAnd, Dz.dOr, Dz.dAndV, Dz.dOrV, Dz.dNotV, Dz.dIfE, Dz.dChain, Dz.dFrz, Dz.dIt, Dz.dRng1, Dz.dRng2, Dz.dSl, Dz.dNoPart, Dz.dPart, Dz.dCat, Dz.dRep, Dz.dLc, Dz.dFor, Dz.dAppend, Dz.dPop, Dz.dPopAt, Dz.rPopAtD, Dz.dSetIx, Dz.dYes, Dz.dRev, Dz.asI, Dz.asQ, Dz.asL, Dz.rIsN, Dz.rIs, Dz.rIsNot, Dz.isNon_d, Dz.isNon_non, Dz.isNon_tup, Dz.isNon_lst, Dz.isNon_str, Dz.isNon_int, Dz.isNon_bl, Dz.isNon_ref, Dz.isNon_dic, Dz.isNon_ty, Dz.rAddU, Dz.rSub, Dz.rMod, Dz.rDiv, Dz.rPow, Dz.rLt, Dz.rLe, Dz.rGt, Dz.rGe, Dz.rEq, Dz.rNe, Dz.rEqv, Dz.rInt2, Dz.rMax2, Dz.rMin2, Dz.rI, Dz.rCmp, Dz.rIxU, Dz.rAbs, Dz.rToInt, Dz.rListU, Dz.rSlU, Dz.trk, Dz.rLenU, Dz.rMulU, Dz.rNeg, Dz.startD, Dz.wipeD, Dz.Tr.d, Dz.Sg.put_M, Dz.Sg.put_n, Dz.Sg.put_pv, Dz.Sg.del_M, Dz.Sg.del_n, Dz.Sg.del_pv, Dz.Mm.put_same, Dz.Mm.put_put, Dz.Sg.put_put, Dz.Mm.put_ne, Dz.Mm.del_ne, Dz.rIsi, Dz.tyN, Dz.tyNames, Dz.isiT, Dz.subT, Dz.tyOk, Dz.tyNames, Dz.pyOf, Dz.toPy, Dz.toPys, Dz.Sg.put_mk, Dz.Sg.del_mk, Dz.spend_M, Dz.spend_pv, Dz.spend_n, Dz.spend_spend, Dz.spend_put, Dz.spend_del, Dz.spNext_iff, Dz.asI_lst, Dz.asI_tup, Dz.dFJ, Dz.dJs, Dz.dFmt, Dz.Tr.isNil, List.map_cons, List.map_nil, List.length_cons, List.length_nil, List.length_map, List.length_set, List.replicate, Nat.reduceSub, Nat.reduceAdd, List.cons_append, List.nil_append, List.getElem?_cons_zero, List.getElem?_cons_succ, List.set_cons_zero, List.set_cons_succ, if_true, if_false, Bool.false_eq_true, id, Nat.sub_zero, Bool.not_true, Bool.not_false, true_and, and_true, ne_eq, not_false_eq_true, not_true_eq_false, reduceCtorEq, Option.map_some, Option.bind_some, String.reduceBEq, Bool.or_false, Bool.or_true, Bool.false_or, Bool.true_or, Bool.and_true, Bool.and_false, Bool.true_and, Bool.false_and, decide_true, decide_false, List.all_cons, List.all_nil, List.any_cons, List.any_nil, beq_self_eq_true, t_law_put]
    exact ⟨by decide, .of hR⟩
  | node l a r =>
    simp only [Tr.depth] at hd
    simp only [Dz.dSeq, Dz.dIf, Dz.dB, Dz.dOp, Dz.dUn, Dz.dVar, Dz.dC, Dz.dRet, Dz.dRetN, Dz.dNx, Dz.dBrk, Dz.dCnt, Dz.dAsg, Dz.dSet, Dz.dPar, Dz.dPar3, Dz.dgT, Dz.dgTt, Dz.dgCons, Dz.dgNil, Dz.dgN, Dz.dCall, Dz.dCons, Dz.dNil, Dz.dTup, Dz.dCB, Dz.dCN, Dz.dF, Dz.dM, Dz.dSz, Dz.dExpr, Dz.dNot, Dz.dAnd, Dz.dOr, Dz.dAndV, Dz.dOrV, Dz.dNotV, Dz.dIfE, Dz.dChain, Dz.dFrz, Dz.dIt, Dz.dRng1, Dz.dRng2, Dz.dSl, Dz.dNoPart, Dz.dPart, Dz.dCat, Dz.dRep, Dz.dLc, Dz.dFor, Dz.dAppend, Dz.dPop, Dz.dPopAt, Dz.rPopAtD, Dz.dSetIx, Dz.dYes, Dz.dRev, Dz.asI, Dz.asQ, Dz.asL, Dz.rIsN, Dz.rIs, Dz.rIsNot, Dz.isNon_d, Dz.isNon_non, Dz.isNon_tup, Dz.isNon_lst, Dz.isNon_str, Dz.isNon_int, Dz.isNon_bl, Dz.isNon_ref, Dz.isNon_dic, Dz.isNon_ty, Dz.rAddU, Dz.rSub, Dz.rMod, Dz.rDiv, Dz.rPow, Dz.rLt, Dz.rLe, Dz.rGt, Dz.rGe, Dz.rEq, Dz.rNe, Dz.rEqv, Dz.rInt2, Dz.rMax2, Dz.rMin2, Dz.rI, Dz.rIxU, Dz.rAbs, Dz.rToInt, Dz.rListU, Dz.rSlU, Dz.trk, Dz.rLenU, Dz.rMulU, Dz.rNeg, Dz.startD, Dz.wipeD, Dz.Tr.d, Dz.Sg.put_M, Dz.Sg.put_n, Dz.Sg.put_pv, Dz.Sg.del_M, Dz.Sg.del_n, Dz.Sg.del_pv, Dz.Mm.put_same, Dz.Mm.put_put, Dz.Sg.put_put, Dz.Mm.put_ne, Dz.Mm.del_ne, Dz.rIsi, Dz.tyN, Dz.tyNames, Dz.isiT, Dz.subT, Dz.tyOk, Dz.tyNames, Dz.pyOf, Dz.toPy, Dz.toPys, Dz.Sg.put_mk, Dz.Sg.del_mk, Dz.spend_M, Dz.spend_pv, Dz.spend_n, Dz.spend_spend, Dz.spend_put, Dz.spend_del, Dz.spNext_iff, Dz.asI_lst, Dz.asI_tup, Dz.dFJ, Dz.dJs, Dz.dFmt, Dz.Tr.isNil, List.map_cons, List.map_nil, List.length_cons, List.length_nil, List.length_map, List.length_set, List.replicate, Nat.reduceSub, Nat.reduceAdd, List.cons_append, List.nil_append, List.getElem?_cons_zero, List.getElem?_cons_succ, List.set_cons_zero, List.set_cons_succ, if_true, if_false, Bool.false_eq_true, id, Nat.sub_zero, Bool.not_true, Bool.not_false, true_and, and_true, ne_eq, not_false_eq_true, not_true_eq_false, reduceCtorEq, Option.map_some, Option.bind_some, String.reduceBEq, Bool.or_false, Bool.or_true, Bool.false_or, Bool.true_or, Bool.and_true, Bool.and_false, Bool.true_and, Bool.false_and, decide_true, decide_false, List.all_cons, List.all_nil, List.any_cons, List.any_nil, beq_self_eq_true, t_law_put, spIns_iff, cmp1]
    by_cases h : c < a
    · simp only [h, decide_true, if_true]
      rw [ins, if_pos h] at hR
      exact ⟨by omega, by decide, .of hR⟩
    · simp only [h, decide_false, if_neg Bool.false_ne_true]
      rw [ins, if_neg h] at hR
      exact ⟨by omega, by decide, .of hR⟩
def spBld : SpD := fun ws s R _ => ∃ ls : List Nat, ws = [.str (mkS ls)] ∧ ls.length ≤ 50 ∧ R (bld ls).d s
theorem spBld_iff {ls : List Nat} {s : Sg} {R : KD} {E : XD} : spBld [.str (mkS ls)] s R E ↔ ls.length ≤ 50 ∧ R (bld ls).d s := by
  constructor
  · rintro ⟨u, e, h⟩
    simp only [List.cons.injEq, D.str.injEq, and_true] at e
    rw [mkS_inj e]
    exact h
  · exact fun h => ⟨ls, rfl, h⟩
theorem e_law_grown : ∀ ws s R, spBld ws s R X0 → ws.length = 1 ∧ t_law_grown (spIns 60) { nx := fun _ s' => Lw R .non s', rt := Lw R } (Dz.startD N_law_grown ws) s := by
  rintro ws s R ⟨ls, rfl, hl, hR⟩
  refine ⟨rfl, ?_⟩
  have ch : (fun c => D.str ⟨#[c]⟩) = chr := rfl
  simp only [Dz.dSeq, Dz.dIf, Dz.dB, Dz.dOp, Dz.dUn, Dz.dVar, Dz.dC, Dz.dRet, Dz.dRetN, Dz.dNx, Dz.dBrk, Dz.dCnt, Dz.dAsg, Dz.dSet, Dz.dPar, Dz.dPar3, Dz.dgT, Dz.dgTt, Dz.dgCons, Dz.dgNil, Dz.dgN, Dz.dCall, Dz.dCons, Dz.dNil, Dz.dTup, Dz.dCB, Dz.dCN, Dz.dF, Dz.dM, Dz.dSz, Dz.dExpr, Dz.dNot, Dz.dAnd, Dz.dOr, Dz.dAndV, Dz.dOrV, Dz.dNotV, Dz.dIfE, Dz.dChain, Dz.dFrz, Dz.dIt, Dz.dRng1, Dz.dRng2, Dz.dSl, Dz.dNoPart, Dz.dPart, Dz.dCat, Dz.dRep, Dz.dLc, Dz.dFor, Dz.dAppend, Dz.dPop, Dz.dPopAt, Dz.rPopAtD, Dz.dSetIx, Dz.dYes, Dz.dRev, Dz.asI, Dz.asQ, Dz.asL, Dz.rIsN, Dz.rIs, Dz.rIsNot, Dz.isNon_d, Dz.isNon_non, Dz.isNon_tup, Dz.isNon_lst, Dz.isNon_str, Dz.isNon_int, Dz.isNon_bl, Dz.isNon_ref, Dz.isNon_dic, Dz.isNon_ty, Dz.rAddU, Dz.rSub, Dz.rMod, Dz.rDiv, Dz.rPow, Dz.rLt, Dz.rLe, Dz.rGt, Dz.rGe, Dz.rEq, Dz.rNe, Dz.rEqv, Dz.rInt2, Dz.rMax2, Dz.rMin2, Dz.rI, Dz.rCmp, Dz.rIxU, Dz.rAbs, Dz.rToInt, Dz.rListU, Dz.rSlU, Dz.trk, Dz.rLenU, Dz.rMulU, Dz.rNeg, Dz.startD, Dz.wipeD, Dz.Tr.d, Dz.Sg.put_M, Dz.Sg.put_n, Dz.Sg.put_pv, Dz.Sg.del_M, Dz.Sg.del_n, Dz.Sg.del_pv, Dz.Mm.put_same, Dz.Mm.put_put, Dz.Sg.put_put, Dz.Mm.put_ne, Dz.Mm.del_ne, Dz.rIsi, Dz.tyN, Dz.tyNames, Dz.isiT, Dz.subT, Dz.tyOk, Dz.tyNames, Dz.pyOf, Dz.toPy, Dz.toPys, Dz.Sg.put_mk, Dz.Sg.del_mk, Dz.spend_M, Dz.spend_pv, Dz.spend_n, Dz.spend_spend, Dz.spend_put, Dz.spend_del, Dz.spNext_iff, Dz.asI_lst, Dz.asI_tup, Dz.dFJ, Dz.dJs, Dz.dFmt, Dz.Tr.isNil, List.map_cons, List.map_nil, List.length_cons, List.length_nil, List.length_map, List.length_set, List.replicate, Nat.reduceSub, Nat.reduceAdd, List.cons_append, List.nil_append, List.getElem?_cons_zero, List.getElem?_cons_succ, List.set_cons_zero, List.set_cons_succ, if_true, if_false, Bool.false_eq_true, id, Nat.sub_zero, Bool.not_true, Bool.not_false, true_and, and_true, ne_eq, not_false_eq_true, not_true_eq_false, reduceCtorEq, Option.map_some, Option.bind_some, String.reduceBEq, Bool.or_false, Bool.or_true, Bool.false_or, Bool.true_or, Bool.and_true, Bool.and_false, Bool.true_and, Bool.false_and, decide_true, decide_false, List.all_cons, List.all_nil, List.any_cons, List.any_nil, beq_self_eq_true, t_law_grown, mkS_cps, ch]
  refine for_inv (fun l env s' => ∃ (a b : List Nat) (e2 : Option D), l = b.map chr ∧ a ++ b = ls ∧ env = [some (.str (mkS ls)), some (bld a).d, e2] ∧ s' = s) ?_ ?_ ⟨[], ls, none, rfl, rfl, rfl, rfl⟩
  · rintro env s' ⟨a, b, e2, hb, hab, rfl, rfl⟩
    cases b with
    | cons _ _ => cases hb
    | nil =>
      rw [List.append_nil] at hab
      subst hab
      simp only [Dz.dSeq, Dz.dIf, Dz.dB, Dz.dOp, Dz.dUn, Dz.dVar, Dz.dC, Dz.dRet, Dz.dRetN, Dz.dNx, Dz.dBrk, Dz.dCnt, Dz.dAsg, Dz.dSet, Dz.dPar, Dz.dPar3, Dz.dgT, Dz.dgTt, Dz.dgCons, Dz.dgNil, Dz.dgN, Dz.dCall, Dz.dCons, Dz.dNil, Dz.dTup, Dz.dCB, Dz.dCN, Dz.dF, Dz.dM, Dz.dSz, Dz.dExpr, Dz.dNot, Dz.dAnd, Dz.dOr, Dz.dAndV, Dz.dOrV, Dz.dNotV, Dz.dIfE, Dz.dChain, Dz.dFrz, Dz.dIt, Dz.dRng1, Dz.dRng2, Dz.dSl, Dz.dNoPart, Dz.dPart, Dz.dCat, Dz.dRep, Dz.dLc, Dz.dFor, Dz.dAppend, Dz.dPop, Dz.dPopAt, Dz.rPopAtD, Dz.dSetIx, Dz.dYes, Dz.dRev, Dz.asI, Dz.asQ, Dz.asL, Dz.rIsN, Dz.rIs, Dz.rIsNot, Dz.isNon_d, Dz.isNon_non, Dz.isNon_tup, Dz.isNon_lst, Dz.isNon_str, Dz.isNon_int, Dz.isNon_bl, Dz.isNon_ref, Dz.isNon_dic, Dz.isNon_ty, Dz.rAddU, Dz.rSub, Dz.rMod, Dz.rDiv, Dz.rPow, Dz.rLt, Dz.rLe, Dz.rGt, Dz.rGe, Dz.rEq, Dz.rNe, Dz.rEqv, Dz.rInt2, Dz.rMax2, Dz.rMin2, Dz.rI, Dz.rCmp, Dz.rIxU, Dz.rAbs, Dz.rToInt, Dz.rListU, Dz.rSlU, Dz.trk, Dz.rLenU, Dz.rMulU, Dz.rNeg, Dz.startD, Dz.wipeD, Dz.Tr.d, Dz.Sg.put_M, Dz.Sg.put_n, Dz.Sg.put_pv, Dz.Sg.del_M, Dz.Sg.del_n, Dz.Sg.del_pv, Dz.Mm.put_same, Dz.Mm.put_put, Dz.Sg.put_put, Dz.Mm.put_ne, Dz.Mm.del_ne, Dz.rIsi, Dz.tyN, Dz.tyNames, Dz.isiT, Dz.subT, Dz.tyOk, Dz.tyNames, Dz.pyOf, Dz.toPy, Dz.toPys, Dz.Sg.put_mk, Dz.Sg.del_mk, Dz.spend_M, Dz.spend_pv, Dz.spend_n, Dz.spend_spend, Dz.spend_put, Dz.spend_del, Dz.spNext_iff, Dz.asI_lst, Dz.asI_tup, Dz.dFJ, Dz.dJs, Dz.dFmt, Dz.Tr.isNil, List.map_cons, List.map_nil, List.length_cons, List.length_nil, List.length_map, List.length_set, List.replicate, Nat.reduceSub, Nat.reduceAdd, List.cons_append, List.nil_append, List.getElem?_cons_zero, List.getElem?_cons_succ, List.set_cons_zero, List.set_cons_succ, if_true, if_false, Bool.false_eq_true, id, Nat.sub_zero, Bool.not_true, Bool.not_false, true_and, and_true, ne_eq, not_false_eq_true, not_true_eq_false, reduceCtorEq, Option.map_some, Option.bind_some, String.reduceBEq, Bool.or_false, Bool.or_true, Bool.false_or, Bool.true_or, Bool.and_true, Bool.and_false, Bool.true_and, Bool.false_and, decide_true, decide_false, List.all_cons, List.all_nil, List.any_cons, List.any_nil, beq_self_eq_true, mkS_cps, ch]
      exact .of hR
  · rintro x r env s' N ⟨a, b, e2, hb, hab, rfl, rfl⟩ hN
    cases b with
    | nil => cases hb
    | cons c b =>
      simp only [List.map_cons, List.cons.injEq] at hb
      obtain ⟨rfl, rfl⟩ := hb
      have hz := fold_size a .nil
      have hd := Tr.depth_le (bld a)
      have hln := congrArg List.length hab
      rw [List.length_append, List.length_cons] at hln
      simp only [Dz.dSeq, Dz.dIf, Dz.dB, Dz.dOp, Dz.dUn, Dz.dVar, Dz.dC, Dz.dRet, Dz.dRetN, Dz.dNx, Dz.dBrk, Dz.dCnt, Dz.dAsg, Dz.dSet, Dz.dPar, Dz.dPar3, Dz.dgT, Dz.dgTt, Dz.dgCons, Dz.dgNil, Dz.dgN, Dz.dCall, Dz.dCons, Dz.dNil, Dz.dTup, Dz.dCB, Dz.dCN, Dz.dF, Dz.dM, Dz.dSz, Dz.dExpr, Dz.dNot, Dz.dAnd, Dz.dOr, Dz.dAndV, Dz.dOrV, Dz.dNotV, Dz.dIfE, Dz.dChain, Dz.dFrz, Dz.dIt, Dz.dRng1, Dz.dRng2, Dz.dSl, Dz.dNoPart, Dz.dPart, Dz.dCat, Dz.dRep, Dz.dLc, Dz.dFor, Dz.dAppend, Dz.dPop, Dz.dPopAt, Dz.rPopAtD, Dz.dSetIx, Dz.dYes, Dz.dRev, Dz.asI, Dz.asQ, Dz.asL, Dz.rIsN, Dz.rIs, Dz.rIsNot, Dz.isNon_d, Dz.isNon_non, Dz.isNon_tup, Dz.isNon_lst, Dz.isNon_str, Dz.isNon_int, Dz.isNon_bl, Dz.isNon_ref, Dz.isNon_dic, Dz.isNon_ty, Dz.rAddU, Dz.rSub, Dz.rMod, Dz.rDiv, Dz.rPow, Dz.rLt, Dz.rLe, Dz.rGt, Dz.rGe, Dz.rEq, Dz.rNe, Dz.rEqv, Dz.rInt2, Dz.rMax2, Dz.rMin2, Dz.rI, Dz.rCmp, Dz.rIxU, Dz.rAbs, Dz.rToInt, Dz.rListU, Dz.rSlU, Dz.trk, Dz.rLenU, Dz.rMulU, Dz.rNeg, Dz.startD, Dz.wipeD, Dz.Tr.d, Dz.Sg.put_M, Dz.Sg.put_n, Dz.Sg.put_pv, Dz.Sg.del_M, Dz.Sg.del_n, Dz.Sg.del_pv, Dz.Mm.put_same, Dz.Mm.put_put, Dz.Sg.put_put, Dz.Mm.put_ne, Dz.Mm.del_ne, Dz.rIsi, Dz.tyN, Dz.tyNames, Dz.isiT, Dz.subT, Dz.tyOk, Dz.tyNames, Dz.pyOf, Dz.toPy, Dz.toPys, Dz.Sg.put_mk, Dz.Sg.del_mk, Dz.spend_M, Dz.spend_pv, Dz.spend_n, Dz.spend_spend, Dz.spend_put, Dz.spend_del, Dz.spNext_iff, Dz.asI_lst, Dz.asI_tup, Dz.dFJ, Dz.dJs, Dz.dFmt, Dz.Tr.isNil, List.map_cons, List.map_nil, List.length_cons, List.length_nil, List.length_map, List.length_set, List.replicate, Nat.reduceSub, Nat.reduceAdd, List.cons_append, List.nil_append, List.getElem?_cons_zero, List.getElem?_cons_succ, List.set_cons_zero, List.set_cons_succ, if_true, if_false, Bool.false_eq_true, id, Nat.sub_zero, Bool.not_true, Bool.not_false, true_and, and_true, ne_eq, not_false_eq_true, not_true_eq_false, reduceCtorEq, Option.map_some, Option.bind_some, String.reduceBEq, Bool.or_false, Bool.or_true, Bool.false_or, Bool.true_or, Bool.and_true, Bool.and_false, Bool.true_and, Bool.false_and, decide_true, decide_false, List.all_cons, List.all_nil, List.any_cons, List.any_nil, beq_self_eq_true, mkS_cps, ch, spIns_iff]
      refine ⟨by rw [show (bld a).size = _ from hz] at hd; simp only [Tr.size] at hd; omega, hN _ _ ⟨a ++ [c], b, some (chr c), rfl, by rw [List.append_assoc]; exact hab, ?_, rfl⟩⟩
      rw [bld, bld, List.foldl_append]
      rfl
def spAhead (n : Nat) : SpD := fun ws s R _ => ∃ t : Tr, ws = [t.d] ∧ t.depth < n ∧ t.size ≤ 1000 ∧ R (.str (mkS (pre t))) s
theorem spAhead_iff {n : Nat} {t : Tr} {s : Sg} {R : KD} {E : XD} : spAhead n [t.d] s R E ↔ t.depth < n ∧ t.size ≤ 1000 ∧ R (.str (mkS (pre t))) s := by
  constructor
  · rintro ⟨u, e, h⟩
    simp only [List.cons.injEq, and_true] at e
    rw [Tr.d_inj e]
    exact h
  · exact fun h => ⟨t, rfl, h⟩
theorem e_law_ahead (n : Nat) : ∀ ws s R, spAhead (n + 1) ws s R X0 → ws.length = 1 ∧ t_law_ahead (spAhead n) { nx := fun _ s' => Lw R .non s', rt := Lw R } (Dz.startD N_law_ahead ws) s := by
  rintro ws s R ⟨t, rfl, hd, hz, hR⟩
  refine ⟨rfl, ?_⟩
  cases t with
  | nil =>
    simp only [Dz.dSeq, Dz.dIf, Dz.dB, Dz.dOp, Dz.dUn, Dz.dVar, Dz.dC, Dz.dRet, Dz.dRetN, Dz.dNx, Dz.dBrk, Dz.dCnt, Dz.dAsg, Dz.dSet, Dz.dPar, Dz.dPar3, Dz.dgT, Dz.dgTt, Dz.dgCons, Dz.dgNil, Dz.dgN, Dz.dCall, Dz.dCons, Dz.dNil, Dz.dTup, Dz.dCB, Dz.dCN, Dz.dF, Dz.dM, Dz.dSz, Dz.dExpr, Dz.dNot, Dz.dAnd, Dz.dOr, Dz.dAndV, Dz.dOrV, Dz.dNotV, Dz.dIfE, Dz.dChain, Dz.dFrz, Dz.dIt, Dz.dRng1, Dz.dRng2, Dz.dSl, Dz.dNoPart, Dz.dPart, Dz.dCat, Dz.dRep, Dz.dLc, Dz.dFor, Dz.dAppend, Dz.dPop, Dz.dPopAt, Dz.rPopAtD, Dz.dSetIx, Dz.dYes, Dz.dRev, Dz.asI, Dz.asQ, Dz.asL, Dz.rIsN, Dz.rIs, Dz.rIsNot, Dz.isNon_d, Dz.isNon_non, Dz.isNon_tup, Dz.isNon_lst, Dz.isNon_str, Dz.isNon_int, Dz.isNon_bl, Dz.isNon_ref, Dz.isNon_dic, Dz.isNon_ty, Dz.rAddU, Dz.rSub, Dz.rMod, Dz.rDiv, Dz.rPow, Dz.rLt, Dz.rLe, Dz.rGt, Dz.rGe, Dz.rEq, Dz.rNe, Dz.rEqv, Dz.rInt2, Dz.rMax2, Dz.rMin2, Dz.rI, Dz.rCmp, Dz.rIxU, Dz.rAbs, Dz.rToInt, Dz.rListU, Dz.rSlU, Dz.trk, Dz.rLenU, Dz.rMulU, Dz.rNeg, Dz.startD, Dz.wipeD, Dz.Tr.d, Dz.Sg.put_M, Dz.Sg.put_n, Dz.Sg.put_pv, Dz.Sg.del_M, Dz.Sg.del_n, Dz.Sg.del_pv, Dz.Mm.put_same, Dz.Mm.put_put, Dz.Sg.put_put, Dz.Mm.put_ne, Dz.Mm.del_ne, Dz.rIsi, Dz.tyN, Dz.tyNames, Dz.isiT, Dz.subT, Dz.tyOk, Dz.tyNames, Dz.pyOf, Dz.toPy, Dz.toPys, Dz.Sg.put_mk, Dz.Sg.del_mk, Dz.spend_M, Dz.spend_pv, Dz.spend_n, Dz.spend_spend, Dz.spend_put, Dz.spend_del, Dz.spNext_iff, Dz.asI_lst, Dz.asI_tup, Dz.dFJ, Dz.dJs, Dz.dFmt, Dz.Tr.isNil, List.map_cons, List.map_nil, List.length_cons, List.length_nil, List.length_map, List.length_set, List.replicate, Nat.reduceSub, Nat.reduceAdd, List.cons_append, List.nil_append, List.getElem?_cons_zero, List.getElem?_cons_succ, List.set_cons_zero, List.set_cons_succ, if_true, if_false, Bool.false_eq_true, id, Nat.sub_zero, Bool.not_true, Bool.not_false, true_and, and_true, ne_eq, not_false_eq_true, not_true_eq_false, reduceCtorEq, Option.map_some, Option.bind_some, String.reduceBEq, Bool.or_false, Bool.or_true, Bool.false_or, Bool.true_or, Bool.and_true, Bool.and_false, Bool.true_and, Bool.false_and, decide_true, decide_false, List.all_cons, List.all_nil, List.any_cons, List.any_nil, beq_self_eq_true, t_law_ahead, sempty]
    exact .of hR
  | node l a r =>
    simp only [Tr.depth, Tr.size] at hd hz
    have h1 := pre_len l
    have h2 := pre_len r
    simp only [Dz.dSeq, Dz.dIf, Dz.dB, Dz.dOp, Dz.dUn, Dz.dVar, Dz.dC, Dz.dRet, Dz.dRetN, Dz.dNx, Dz.dBrk, Dz.dCnt, Dz.dAsg, Dz.dSet, Dz.dPar, Dz.dPar3, Dz.dgT, Dz.dgTt, Dz.dgCons, Dz.dgNil, Dz.dgN, Dz.dCall, Dz.dCons, Dz.dNil, Dz.dTup, Dz.dCB, Dz.dCN, Dz.dF, Dz.dM, Dz.dSz, Dz.dExpr, Dz.dNot, Dz.dAnd, Dz.dOr, Dz.dAndV, Dz.dOrV, Dz.dNotV, Dz.dIfE, Dz.dChain, Dz.dFrz, Dz.dIt, Dz.dRng1, Dz.dRng2, Dz.dSl, Dz.dNoPart, Dz.dPart, Dz.dCat, Dz.dRep, Dz.dLc, Dz.dFor, Dz.dAppend, Dz.dPop, Dz.dPopAt, Dz.rPopAtD, Dz.dSetIx, Dz.dYes, Dz.dRev, Dz.asI, Dz.asQ, Dz.asL, Dz.rIsN, Dz.rIs, Dz.rIsNot, Dz.isNon_d, Dz.isNon_non, Dz.isNon_tup, Dz.isNon_lst, Dz.isNon_str, Dz.isNon_int, Dz.isNon_bl, Dz.isNon_ref, Dz.isNon_dic, Dz.isNon_ty, Dz.rAddU, Dz.rSub, Dz.rMod, Dz.rDiv, Dz.rPow, Dz.rLt, Dz.rLe, Dz.rGt, Dz.rGe, Dz.rEq, Dz.rNe, Dz.rEqv, Dz.rInt2, Dz.rMax2, Dz.rMin2, Dz.rI, Dz.rCmp, Dz.rIxU, Dz.rAbs, Dz.rToInt, Dz.rListU, Dz.rSlU, Dz.trk, Dz.rLenU, Dz.rMulU, Dz.rNeg, Dz.startD, Dz.wipeD, Dz.Tr.d, Dz.Sg.put_M, Dz.Sg.put_n, Dz.Sg.put_pv, Dz.Sg.del_M, Dz.Sg.del_n, Dz.Sg.del_pv, Dz.Mm.put_same, Dz.Mm.put_put, Dz.Sg.put_put, Dz.Mm.put_ne, Dz.Mm.del_ne, Dz.rIsi, Dz.tyN, Dz.tyNames, Dz.isiT, Dz.subT, Dz.tyOk, Dz.tyNames, Dz.pyOf, Dz.toPy, Dz.toPys, Dz.Sg.put_mk, Dz.Sg.del_mk, Dz.spend_M, Dz.spend_pv, Dz.spend_n, Dz.spend_spend, Dz.spend_put, Dz.spend_del, Dz.spNext_iff, Dz.asI_lst, Dz.asI_tup, Dz.dFJ, Dz.dJs, Dz.dFmt, Dz.Tr.isNil, List.map_cons, List.map_nil, List.length_cons, List.length_nil, List.length_map, List.length_set, List.replicate, Nat.reduceSub, Nat.reduceAdd, List.cons_append, List.nil_append, List.getElem?_cons_zero, List.getElem?_cons_succ, List.set_cons_zero, List.set_cons_succ, if_true, if_false, Bool.false_eq_true, id, Nat.sub_zero, Bool.not_true, Bool.not_false, true_and, and_true, ne_eq, not_false_eq_true, not_true_eq_false, reduceCtorEq, Option.map_some, Option.bind_some, String.reduceBEq, Bool.or_false, Bool.or_true, Bool.false_or, Bool.true_or, Bool.and_true, Bool.and_false, Bool.true_and, Bool.false_and, decide_true, decide_false, List.all_cons, List.all_nil, List.any_cons, List.any_nil, beq_self_eq_true, t_law_ahead, spAhead_iff, chr_mk, mkS_app, mkS_len]
    refine ⟨by omega, by omega, by omega, by omega, by omega, ?_, .of ?_⟩
    · omega
    · simpa [pre] using hR
end Pr
namespace Pr
open PySem PySem.Spec PyProof.Rows L2 Dz
/-! plain: factorials, products, numbers of orders -/
def fac : Nat → Nat
  | 0 => 1
  | n + 1 => (n + 1) * fac n
theorem fac_pos : ∀ n, 0 < fac n
  | 0 => by decide
  | n + 1 => Nat.mul_pos (Nat.succ_pos _) (fac_pos n)
def prd : Tr → Nat
  | .nil => 1
  | .node l a r => (l.size + 1 + r.size) * prd l * prd r
theorem prd_pos : ∀ t, 0 < prd t
  | .nil => by decide
  | .node l a r => Nat.mul_pos (Nat.mul_pos (by omega) (prd_pos l)) (prd_pos r)
/-- s (s-1) .. (s-k+1) -/
def dsc (s : Nat) : Nat → Nat
  | 0 => 1
  | k + 1 => dsc s k * (s - k)
theorem dsc_fac : ∀ (k s : Nat), k ≤ s → dsc s k * fac (s - k) = fac s
  | 0, s, _ => by simp [dsc]
  | k + 1, s, h => by
    have ih := dsc_fac k s (by omega)
    obtain ⟨m, hm⟩ : ∃ m, s - k = m + 1 := ⟨s - k - 1, by omega⟩
    rw [hm] at ih
    rw [dsc, show s - (k + 1) = m by omega, hm, Nat.mul_assoc]
    exact ih
/-- in how many ways -/
def chs : Nat → Nat → Nat
  | _, 0 => 1
  | 0, _ + 1 => 0
  | n + 1, k + 1 => chs n k + chs n (k + 1)
theorem chs_lt : ∀ (n k : Nat), n < k → chs n k = 0
  | 0, k + 1, _ => rfl
  | n + 1, k + 1, h => by rw [chs, chs_lt n k (by omega), chs_lt n (k + 1) (by omega)]
theorem chs_self : ∀ n, chs n n = 1
  | 0 => rfl
  | n + 1 => by rw [chs, chs_self n, chs_lt n (n + 1) (by omega)]
theorem chs_fac : ∀ (n k : Nat), k ≤ n → chs n k * fac k * fac (n - k) = fac n
  | 0, 0, _ => rfl
  | n + 1, 0, _ => by simp [chs, fac]
  | n + 1, k + 1, h => by
    by_cases e : k = n
    · subst e
      rw [chs_self]; simp [fac]
    · have h1 := chs_fac n k (by omega)
      have h2 := chs_fac n (k + 1) (by omega)
      obtain ⟨m, hm⟩ : ∃ m, n - k = m + 1 := ⟨n - k - 1, by omega⟩
      have hm2 : n - (k + 1) = m := by omega
      have hm3 : n + 1 - (k + 1) = m + 1 := by omega
      rw [hm] at h1
      rw [hm2] at h2
      rw [hm3, chs, Nat.add_mul, Nat.add_mul]
      have e1 : chs n k * fac (k + 1) * fac (m + 1) = (k + 1) * fac n := by
        rw [← h1, fac]
        simp only [Nat.mul_comm, Nat.mul_left_comm, Nat.mul_assoc]
      have e2 : chs n (k + 1) * fac (k + 1) * fac (m + 1) = (m + 1) * fac n := by
        rw [← h2, show fac (m + 1) = (m + 1) * fac m from rfl]
        simp only [Nat.mul_comm, Nat.mul_left_comm, Nat.mul_assoc]
      rw [e1, e2, ← Nat.add_mul, fac, show k + 1 + (m + 1) = n + 1 by omega]
theorem dsc_chs (n k : Nat) (h : k ≤ n) : dsc n k = chs n k * fac k := by
  have h1 := dsc_fac k n h
  have h2 := chs_fac n k h
  exact Nat.eq_of_mul_eq_mul_right (fac_pos (n - k)) (h1.trans h2.symm)
def nmb : Tr → Nat
  | .nil => 1
  | .node l a r => nmb l * nmb r * chs (l.size + r.size) l.size
theorem nmb_prd : ∀ t : Tr, nmb t * prd t = fac t.size
  | .nil => rfl
  | .node l a r => by
    have h1 := nmb_prd l
    have h2 := nmb_prd r
    have h3 := chs_fac (l.size + r.size) l.size (by omega)
    rw [show l.size + r.size - l.size = r.size by omega, ← h1, ← h2] at h3
    have e : (Tr.node l a r).size = (l.size + r.size) + 1 := by simp only [Tr.size]; omega
    rw [e, fac, ← h3, nmb, prd, show l.size + 1 + r.size = l.size + r.size + 1 by omega]
    simp only [Nat.mul_comm, Nat.mul_left_comm, Nat.mul_assoc]
theorem nmb_pos (t : Tr) : 0 < nmb t := Nat.pos_of_ne_zero fun h => by
  have := nmb_prd t
  rw [h, Nat.zero_mul] at this
  have := fac_pos t.size
  omega
theorem nmb_div (t : Tr) : fac t.size / prd t = nmb t := by
  rw [← nmb_prd, Nat.mul_div_cancel _ (prd_pos t)]
theorem fac_le : ∀ {a b : Nat}, a ≤ b → fac a ≤ fac b
  | a, 0, h => by rw [show a = 0 by omega]; exact Nat.le_refl _
  | a, b + 1, h => by
    by_cases e : a = b + 1
    · rw [e]; exact Nat.le_refl _
    · exact Nat.le_trans (fac_le (show a ≤ b by omega)) (Nat.le_mul_of_pos_left _ (Nat.succ_pos _))
theorem prd_le {t : Tr} (h : t.size ≤ 12) : prd t ≤ 479001600 := by
  have h1 := nmb_prd t
  have h2 := nmb_pos t
  have h3 := fac_le h
  rw [show fac 12 = 479001600 by decide +kernel, ← h1] at h3
  exact Nat.le_trans (Nat.le_mul_of_pos_left _ h2) h3
theorem nmb_le {t : Tr} (h : t.size ≤ 12) : nmb t ≤ 479001600 := by
  have h1 := nmb_prd t
  have h2 := prd_pos t
  have h3 := fac_le h
  rw [show fac 12 = 479001600 by decide +kernel, ← h1] at h3
  exact Nat.le_trans (Nat.le_mul_of_pos_right _ h2) h3
/-! all orders, and those that give one tree -/
def puts (c : Nat) (o : List Nat) : List (List Nat) := (List.range (o.length + 1)).map fun k => o.take k ++ c :: o.drop k
def prms (ls : List Nat) : List (List Nat) := ls.foldl (fun acc c => acc.flatMap (puts c)) [[]]
def cnt (ls : List Nat) : Nat := ((prms ls).filter fun o => decide (bld o = bld ls)).length
def lists (n : Nat) : Nat → List (List Nat)
  | 0 => [[]]
  | k + 1 => (lists n k).flatMap fun l => (List.range n).map fun x => x :: l
def okAll (n : Nat) : Bool := (lists n n).all fun l => !decide l.Nodup || decide (cnt l = nmb (bld l))
theorem ok5 : okAll 1 = true ∧ okAll 2 = true ∧ okAll 3 = true ∧ okAll 4 = true := by decide +kernel
end Pr
namespace Pr
open PySem PySem.Spec PyProof.Rows L2 Dz
theorem ok55 : okAll 5 = true := by decide +kernel
def tmap (g : Nat → Nat) : Tr → Tr
  | .nil => .nil
  | .node l a r => .node (tmap g l) (g a) (tmap g r)
theorem tmap_size (g : Nat → Nat) : ∀ t : Tr, (tmap g t).size = t.size
  | .nil => rfl
  | .node l a r => by simp only [tmap, Tr.size, tmap_size g l, tmap_size g r]
theorem tmap_nmb (g : Nat → Nat) : ∀ t : Tr, nmb (tmap g t) = nmb t
  | .nil => rfl
  | .node l a r => by simp only [tmap, nmb, tmap_nmb g l, tmap_nmb g r, tmap_size]
section
variable {g : Nat → Nat} {S : Nat → Prop} (hg : ∀ x y, S x → S y → (x < y ↔ g x < g y))
include hg
theorem ins_map {c : Nat} (hc : S c) : ∀ {t : Tr}, t.all S → ins (tmap g t) (g c) = tmap g (ins t c)
  | .nil, _ => rfl
  | .node l a r, h => by
    have e := hg c a hc h.2.1
    by_cases q : c < a
    · rw [ins, if_pos q, tmap, ins, if_pos (e.mp q), ins_map hc h.1, tmap]
    · rw [ins, if_neg q, tmap, ins, if_neg (fun z => q (e.mpr z)), ins_map hc h.2.2, tmap]
theorem fold_map : ∀ {o : List Nat} {t : Tr}, (∀ x ∈ o, S x) → t.all S → (o.map g).foldl ins (tmap g t) = tmap g (o.foldl ins t)
  | [], t, _, _ => rfl
  | c :: o, t, h, ht => by
    rw [List.map_cons, List.foldl_cons, List.foldl_cons, ins_map hg (h c List.mem_cons_self) ht]
    exact fold_map (fun x hx => h x (List.mem_cons_of_mem _ hx)) (ins_all (h c List.mem_cons_self) ht)
theorem bld_map {o : List Nat} (h : ∀ x ∈ o, S x) : bld (o.map g) = tmap g (bld o) := fold_map hg (t := .nil) h trivial
theorem tmap_inj : ∀ {t u : Tr}, t.all S → u.all S → tmap g t = tmap g u → t = u
  | .nil, .nil, _, _, _ => rfl
  | .nil, .node _ _ _, _, _, h => by cases h
  | .node _ _ _, .nil, _, _, h => by cases h
  | .node l a r, .node l' a' r', ht, hu, h => by
    simp only [tmap, Tr.node.injEq] at h
    have e1 := hg a a' ht.2.1 hu.2.1
    have e2 := hg a' a hu.2.1 ht.2.1
    rw [tmap_inj ht.1 hu.1 h.1, tmap_inj ht.2.2 hu.2.2 h.2.2, show a = a' by have := h.2.1; omega]
end
theorem puts_map (g : Nat → Nat) (c : Nat) (o : List Nat) : puts (g c) (o.map g) = (puts c o).map (List.map g) := by
  unfold puts
  rw [List.length_map, List.map_map]
  apply List.map_congr_left
  intro k _
  simp only [Function.comp, List.map_append, List.map_cons, List.map_take, List.map_drop]
theorem step_map (g : Nat → Nat) (c : Nat) : ∀ acc : List (List Nat), (acc.map (List.map g)).flatMap (puts (g c)) = (acc.flatMap (puts c)).map (List.map g)
  | [] => rfl
  | o :: acc => by rw [List.map_cons, List.flatMap_cons, List.flatMap_cons, List.map_append, puts_map, step_map g c acc]
theorem prmsF_map (g : Nat → Nat) : ∀ (ls : List Nat) (acc : List (List Nat)), (ls.map g).foldl (fun acc c => acc.flatMap (puts c)) (acc.map (List.map g)) = (ls.foldl (fun acc c => acc.flatMap (puts c)) acc).map (List.map g)
  | [], acc => rfl
  | c :: ls, acc => by rw [List.map_cons, List.foldl_cons, List.foldl_cons, step_map, prmsF_map g ls]
theorem prms_map (g : Nat → Nat) (ls : List Nat) : prms (ls.map g) = (prms ls).map (List.map g) := prmsF_map g ls [[]]
theorem puts_mem {c : Nat} {o p : List Nat} (h : p ∈ puts c o) : p.length = o.length + 1 ∧ ∀ x ∈ p, x = c ∨ x ∈ o := by
  obtain ⟨k, hk, rfl⟩ := List.mem_map.mp h
  have hk' : k < o.length + 1 := by simpa using hk
  refine ⟨?_, fun x hx => ?_⟩
  · rw [List.length_append, List.length_cons, List.length_take, List.length_drop]; omega
  · rcases List.mem_append.mp hx with hx | hx
    · exact .inr (List.mem_of_mem_take hx)
    · rcases List.mem_cons.mp hx with hx | hx
      · exact .inl hx
      · exact .inr (List.mem_of_mem_drop hx)
theorem prmsF_mem {S : Nat → Prop} : ∀ {ls : List Nat} {acc : List (List Nat)} {n : Nat}, (∀ c ∈ ls, S c) → (∀ o ∈ acc, o.length = n ∧ ∀ x ∈ o, S x) → ∀ p ∈ ls.foldl (fun acc c => acc.flatMap (puts c)) acc, p.length = n + ls.length ∧ ∀ x ∈ p, S x
  | [], acc, n, _, h, p, hp => h p hp
  | c :: ls, acc, n, hc, h, p, hp => by
    have := prmsF_mem (S := S) (ls := ls) (acc := acc.flatMap (puts c)) (n := n + 1) (fun d hd => hc d (List.mem_cons_of_mem _ hd)) (fun o ho => by
      obtain ⟨o', ho', hq⟩ := List.mem_flatMap.mp ho
      obtain ⟨e1, e2⟩ := puts_mem hq
      obtain ⟨f1, f2⟩ := h o' ho'
      refine ⟨by omega, fun x hx => ?_⟩
      rcases e2 x hx with rfl | hx
      · exact hc x List.mem_cons_self
      · exact f2 x hx) p hp
    rw [List.length_cons]
    exact ⟨by omega, this.2⟩
theorem prms_mem {S : Nat → Prop} {ls p : List Nat} (h : ∀ c ∈ ls, S c) (hp : p ∈ prms ls) : p.length = ls.length ∧ ∀ x ∈ p, S x := by
  have := prmsF_mem (S := S) (n := 0) h (acc := [[]]) (fun o ho => by rw [List.mem_singleton.mp ho]; exact ⟨rfl, fun _ z => nomatch z⟩) p hp
  exact ⟨by omega, this.2⟩
theorem puts_len (c : Nat) (o : List Nat) : (puts c o).length = o.length + 1 := by simp [puts]
theorem flat_len : ∀ {acc : List (List Nat)} {c n : Nat}, (∀ o ∈ acc, o.length = n) → (acc.flatMap (puts c)).length = acc.length * (n + 1)
  | [], c, n, _ => by simp
  | o :: acc, c, n, h => by
    rw [List.flatMap_cons, List.length_append, puts_len, h o List.mem_cons_self, flat_len fun p hp => h p (List.mem_cons_of_mem _ hp), List.length_cons, Nat.add_mul]; omega
theorem cnt_map {g : Nat → Nat} {ls : List Nat} (hg : ∀ x y, x ∈ ls → y ∈ ls → (x < y ↔ g x < g y)) : cnt (ls.map g) = cnt ls := by
  unfold cnt
  rw [prms_map, List.filter_map, List.length_map]
  congr 1
  apply List.filter_congr
  intro o ho
  have h1 := (prms_mem (S := (· ∈ ls)) (fun _ h => h) ho).2
  have h2 : (bld o).all (· ∈ ls) := fold_all h1 trivial
  have h3 : (bld ls).all (· ∈ ls) := fold_all (fun _ h => h) trivial
  simp only [Function.comp]
  rw [bld_map (S := (· ∈ ls)) hg h1, bld_map (S := (· ∈ ls)) hg (fun _ h => h), decide_eq_decide]
  exact ⟨fun e => tmap_inj (S := (· ∈ ls)) hg h2 h3 e, fun e => by rw [e]⟩
/-! ranks -/
def rk (ls : List Nat) (x : Nat) : Nat := (ls.filter fun y => decide (y < x)).length
theorem rk_mono : ∀ (ls : List Nat) {x y : Nat}, x ≤ y → rk ls x ≤ rk ls y
  | [], x, y, _ => Nat.le_refl _
  | a :: ls, x, y, h => by
    have ih := rk_mono ls h
    simp only [rk, List.filter_cons] at ih ⊢
    by_cases h1 : a < x
    · simp only [h1, show a < y by omega, decide_true, if_true, List.length_cons]; omega
    · by_cases h2 : a < y
      · simp only [h1, h2, decide_true, decide_false, if_true, if_neg Bool.false_ne_true, List.length_cons]; omega
      · simp only [h1, h2, decide_false, if_neg Bool.false_ne_true]; exact ih
theorem rk_lt : ∀ (ls : List Nat) {x y : Nat}, x < y → x ∈ ls → rk ls x < rk ls y
  | [], x, y, _, h => nomatch h
  | a :: ls, x, y, h, hx => by
    by_cases ha : a = x
    · subst ha
      have := rk_mono ls (Nat.le_of_lt h)
      simp only [rk, List.filter_cons] at this ⊢
      simp only [h, Nat.lt_irrefl, decide_true, decide_false, if_true, if_neg Bool.false_ne_true, List.length_cons]; omega
    · have hx' : x ∈ ls := by
        rcases List.mem_cons.mp hx with e | e
        · exact absurd e.symm ha
        · exact e
      have ih := rk_lt ls h hx'
      simp only [rk, List.filter_cons] at ih ⊢
      by_cases h1 : a < x
      · simp only [h1, show a < y by omega, decide_true, if_true, List.length_cons]; omega
      · by_cases h2 : a < y
        · simp only [h1, h2, decide_true, decide_false, if_true, if_neg Bool.false_ne_true, List.length_cons]; omega
        · simp only [h1, h2, decide_false, if_neg Bool.false_ne_true]; exact ih
theorem rk_iff {ls : List Nat} {x y : Nat} (hx : x ∈ ls) (hy : y ∈ ls) : x < y ↔ rk ls x < rk ls y :=
  ⟨fun h => rk_lt ls h hx, fun h => Nat.lt_of_not_le fun z => by have := rk_mono ls z; omega⟩
theorem rk_bound {ls : List Nat} {x : Nat} (hx : x ∈ ls) : rk ls x < ls.length := by
  have : rk ls x < rk ls (x + 1) := rk_lt ls (Nat.lt_succ_self _) hx
  have h2 : rk ls (x + 1) ≤ ls.length := List.length_filter_le _ _
  omega
theorem lists_mem (n : Nat) : ∀ {l : List Nat}, (∀ x ∈ l, x < n) → l ∈ lists n l.length
  | [], _ => by simp [lists]
  | x :: l, h => by
    rw [List.length_cons, lists]
    refine List.mem_flatMap.mpr ⟨l, lists_mem n fun y hy => h y (List.mem_cons_of_mem _ hy), List.mem_map.mpr ⟨x, ?_, rfl⟩⟩
    simpa using h x List.mem_cons_self
theorem nodup_map {g : Nat → Nat} : ∀ {ls : List Nat}, (∀ x y, x ∈ ls → y ∈ ls → g x = g y → x = y) → ls.Nodup → (ls.map g).Nodup
  | [], _, _ => List.nodup_nil
  | x :: ls, h, n => by
    rw [List.nodup_cons] at n
    rw [List.map_cons, List.nodup_cons]
    refine ⟨fun hm => ?_, nodup_map (fun a b ha hb => h a b (List.mem_cons_of_mem _ ha) (List.mem_cons_of_mem _ hb)) n.2⟩
    obtain ⟨y, hy, e⟩ := List.mem_map.mp hm
    exact n.1 (by rw [← h y x (List.mem_cons_of_mem _ hy) List.mem_cons_self e]; exact hy)
theorem cnt_nmb {ls : List Nat} (h0 : 0 < ls.length) (h5 : ls.length ≤ 5) (hn : ls.Nodup) : cnt ls = nmb (bld ls) := by
  have hg : ∀ x y, x ∈ ls → y ∈ ls → (x < y ↔ rk ls x < rk ls y) := fun x y hx hy => rk_iff hx hy
  have e1 := cnt_map hg
  have e2 : nmb (bld (ls.map (rk ls))) = nmb (bld ls) := by
    rw [bld_map (S := (· ∈ ls)) hg (fun _ h => h), tmap_nmb]
  have hl : (ls.map (rk ls)).length = ls.length := List.length_map _
  have hm : ls.map (rk ls) ∈ lists ls.length ls.length := by
    have := lists_mem ls.length (l := ls.map (rk ls)) fun x hx => by
      obtain ⟨y, hy, rfl⟩ := List.mem_map.mp hx
      exact rk_bound hy
    rw [hl] at this
    exact this
  have hd : (ls.map (rk ls)).Nodup := nodup_map (fun x y hx hy e => by have := hg x y hx hy; have := hg y x hy hx; omega) hn
  have ok : okAll ls.length = true := by
    have : ls.length = 1 ∨ ls.length = 2 ∨ ls.length = 3 ∨ ls.length = 4 ∨ ls.length = 5 := by omega
    rcases this with e | e | e | e | e <;> rw [e]
    · exact ok5.1
    · exact ok5.2.1
    · exact ok5.2.2.1
    · exact ok5.2.2.2
    · exact ok55
  have := List.all_eq_true.mp ok _ hm
  rw [decide_eq_true hd] at this
  simp only [Bool.not_true, Bool.false_or, decide_eq_true_eq] at this
  rw [← e1, ← e2, this]
end Pr
namespace Pr
open PySem PySem.Spec PyProof.Rows L2 Dz
/-- a comprehension over things of one kind -/
theorem lc_of {α : Type} (mk : α → D) (f : α → Option D) {w : D} {ws : List D} {g : DG} {tt : DT} {te : DE} {vs : List Nat} {env : Ev} {R : List D → Sg → Prop} {s : Sg} : ∀ {l : List α} {acc : List D}, asI s w = some ws → (∀ x ∈ l, ∀ (k : KD) (B : Sg → Prop), (match f x with | some y => k y s | none => B s) → g (mk x) (wipeD env vs) s fun env2 s2 => tt env2 s2 fun b s3 => if b = true then te env2 s3 k else B s3) → acc.length + l.length ≤ 1000000 → R (acc ++ l.filterMap f) s → dLcL w ws g tt te vs env R (l.map mk) acc s
  | [], acc, h, st, hl, hR => ⟨h, by simpa using hR⟩
  | x :: l, acc, h, st, hl, hR => by
    refine ⟨h, st x List.mem_cons_self (fun y s4 => acc.length < 1000000 ∧ dLcL w ws g tt te vs env R (l.map mk) (acc ++ [y]) s4) _ ?_⟩
    rw [List.length_cons] at hl
    cases e : f x with
    | none =>
      rw [List.filterMap_cons_none e] at hR
      exact lc_of mk f h (fun y hy => st y (List.mem_cons_of_mem _ hy)) (by omega) hR
    | some y =>
      rw [List.filterMap_cons_some e] at hR
      exact ⟨by omega, lc_of mk f h (fun y hy => st y (List.mem_cons_of_mem _ hy)) (by rw [List.length_append, List.length_cons, List.length_nil]; omega) (by rw [List.append_assoc]; exact hR)⟩
theorem lc_rg {n : Nat} (f : Nat → Option D) {w : D} {ws : List D} {g : DG} {tt : DT} {te : DE} {vs : List Nat} {env : Ev} {R : List D → Sg → Prop} {s : Sg} (h : asI s w = some ws) (st : ∀ x : Nat, x < n → ∀ (k : KD) (B : Sg → Prop), (match f x with | some y => k y s | none => B s) → g (.int x) (wipeD env vs) s fun env2 s2 => tt env2 s2 fun b s3 => if b = true then te env2 s3 k else B s3) (hl : n ≤ 1000000) (hR : R ((List.range n).filterMap f) s) : dLcL w ws g tt te vs env R (rg 0 n) [] s := by
  have e : rg 0 n = (List.range n).map fun k : Nat => D.int (k : Int) := by
    unfold rg
    apply List.map_congr_left
    intro k _
    rw [Int.zero_add]
  rw [e]
  exact lc_of (fun k : Nat => D.int (k : Int)) f h (fun x hx => st x (by simpa using hx)) (by rw [List.length_nil, List.length_range]; omega) (by rw [List.nil_append]; exact hR)
theorem for_rg {n : Nat} {g : DG} {tb : DS} {DD : DEnds} {env : Ev} {s : Sg} (I : Nat → Ev → Sg → Prop) (st : I 0 env s) (h0 : ∀ env s, I n env s → DD.nx env s)
    (h1 : ∀ (k : Nat) env s (N : Ev → Sg → Prop), k < n → I k env s → (∀ env' s', I (k + 1) env' s' → N env' s') → g (.int k) env s fun env' s' => tb { DD with nx := N, ct := N, bk := DD.nx } env' s') :
    dForL (.lst (rg 0 n)) (rg 0 n) g tb DD (rg 0 n) env s := by
  refine for_inv (fun l env s => ∃ k, k ≤ n ∧ l = (rg 0 n).drop k ∧ I k env s) ?_ ?_ ⟨0, Nat.zero_le _, rfl, st⟩
  · rintro env s ⟨k, hk, hl, q⟩
    have := congrArg List.length hl
    rw [List.length_drop, rg_len, List.length_nil] at this
    have e : k = n := by omega
    subst e
    exact ⟨rfl, h0 env s q⟩
  · rintro x r env s N ⟨k, hk, hl, q⟩ hN
    have hlt : k < (rg 0 n).length := by
      have := congrArg List.length hl
      rw [List.length_drop, List.length_cons] at this
      omega
    rw [List.drop_eq_getElem_cons hlt] at hl
    obtain ⟨rfl, rfl⟩ := List.cons.inj hl
    have ex : (rg 0 n)[k] = .int k := by simp [rg]
    rw [rg_len] at hlt
    rw [ex]
    exact ⟨rfl, h1 k env s N hlt q fun env' s' q' => hN env' s' ⟨k + 1, by omega, rfl, q'⟩⟩
theorem e_size_of (n : Nat) : ∀ ws s R, spT (fun t => .int t.size) (n + 1) ws s R X0 → ws.length = 1 ∧ t_size_of (spT (fun t => .int t.size) n) { nx := fun _ s' => Lw R .non s', rt := Lw R } (Dz.startD N_size_of ws) s := by
  rintro ws s R ⟨t, rfl, hd, hR⟩
  refine ⟨rfl, ?_⟩
  cases t with
  | nil =>
    simp only [Dz.dSeq, Dz.dIf, Dz.dB, Dz.dOp, Dz.dUn, Dz.dVar, Dz.dC, Dz.dRet, Dz.dRetN, Dz.dNx, Dz.dBrk, Dz.dCnt, Dz.dAsg, Dz.dSet, Dz.dPar, Dz.dPar3, Dz.dgT, Dz.dgTt, Dz.dgCons, Dz.dgNil, Dz.dgN, Dz.dCall, Dz.dCons, Dz.dNil, Dz.dTup, Dz.dCB, Dz.dCN, Dz.dF, Dz.dM, Dz.dSz, Dz.dExpr, Dz.dNot, Dz.dAnd, Dz.dOr, Dz.dAndV, Dz.dOrV, Dz.dNotV, Dz.dIfE, Dz.dChain, Dz.dFrz, Dz.dIt, Dz.dRng1, Dz.dRng2, Dz.dSl, Dz.dNoPart, Dz.dPart, Dz.dCat, Dz.dRep, Dz.dLc, Dz.dFor, Dz.dAppend, Dz.dPop, Dz.dPopAt, Dz.rPopAtD, Dz.dSetIx, Dz.dYes, Dz.dRev, Dz.asI, Dz.asQ, Dz.asL, Dz.rIsN, Dz.rIs, Dz.rIsNot, Dz.isNon_d, Dz.isNon_non, Dz.isNon_tup, Dz.isNon_lst, Dz.isNon_str, Dz.isNon_int, Dz.isNon_bl, Dz.isNon_ref, Dz.isNon_dic, Dz.isNon_ty, Dz.rAddU, Dz.rSub, Dz.rMod, Dz.rDiv, Dz.rPow, Dz.rLt, Dz.rLe, Dz.rGt, Dz.rGe, Dz.rEq, Dz.rNe, Dz.rEqv, Dz.rInt2, Dz.rMax2, Dz.rMin2, Dz.rI, Dz.rCmp, Dz.rIxU, Dz.rAbs, Dz.rToInt, Dz.rListU, Dz.rSlU, Dz.trk, Dz.rLenU, Dz.rMulU, Dz.rNeg, Dz.startD, Dz.wipeD, Dz.Tr.d, Dz.Sg.put_M, Dz.Sg.put_n, Dz.Sg.put_pv, Dz.Sg.del_M, Dz.Sg.del_n, Dz.Sg.del_pv, Dz.Mm.put_same, Dz.Mm.put_put, Dz.Sg.put_put, Dz.Mm.put_ne, Dz.Mm.del_ne, Dz.rIsi, Dz.tyN, Dz.tyNames, Dz.isiT, Dz.subT, Dz.tyOk, Dz.tyNames, Dz.pyOf, Dz.toPy, Dz.toPys, Dz.Sg.put_mk, Dz.Sg.del_mk, Dz.spend_M, Dz.spend_pv, Dz.spend_n, Dz.spend_spend, Dz.spend_put, Dz.spend_del, Dz.spNext_iff, Dz.asI_lst, Dz.asI_tup, Dz.dFJ, Dz.dJs, Dz.dFmt, Dz.Tr.isNil, List.map_cons, List.map_nil, List.length_cons, List.length_nil, List.length_map, List.length_set, List.replicate, Nat.reduceSub, Nat.reduceAdd, List.cons_append, List.nil_append, List.getElem?_cons_zero, List.getElem?_cons_succ, List.set_cons_zero, List.set_cons_succ, if_true, if_false, Bool.false_eq_true, id, Nat.sub_zero, Bool.not_true, Bool.not_false, true_and, and_true, ne_eq, not_false_eq_true, not_true_eq_false, reduceCtorEq, Option.map_some, Option.bind_some, String.reduceBEq, Bool.or_false, Bool.or_true, Bool.false_or, Bool.true_or, Bool.and_true, Bool.and_false, Bool.true_and, Bool.false_and, decide_true, decide_false, List.all_cons, List.all_nil, List.any_cons, List.any_nil, beq_self_eq_true, t_size_of]
    exact .of hR
  | node l a r =>
    simp only [Dz.dSeq, Dz.dIf, Dz.dB, Dz.dOp, Dz.dUn, Dz.dVar, Dz.dC, Dz.dRet, Dz.dRetN, Dz.dNx, Dz.dBrk, Dz.dCnt, Dz.dAsg, Dz.dSet, Dz.dPar, Dz.dPar3, Dz.dgT, Dz.dgTt, Dz.dgCons, Dz.dgNil, Dz.dgN, Dz.dCall, Dz.dCons, Dz.dNil, Dz.dTup, Dz.dCB, Dz.dCN, Dz.dF, Dz.dM, Dz.dSz, Dz.dExpr, Dz.dNot, Dz.dAnd, Dz.dOr, Dz.dAndV, Dz.dOrV, Dz.dNotV, Dz.dIfE, Dz.dChain, Dz.dFrz, Dz.dIt, Dz.dRng1, Dz.dRng2, Dz.dSl, Dz.dNoPart, Dz.dPart, Dz.dCat, Dz.dRep, Dz.dLc, Dz.dFor, Dz.dAppend, Dz.dPop, Dz.dPopAt, Dz.rPopAtD, Dz.dSetIx, Dz.dYes, Dz.dRev, Dz.asI, Dz.asQ, Dz.asL, Dz.rIsN, Dz.rIs, Dz.rIsNot, Dz.isNon_d, Dz.isNon_non, Dz.isNon_tup, Dz.isNon_lst, Dz.isNon_str, Dz.isNon_int, Dz.isNon_bl, Dz.isNon_ref, Dz.isNon_dic, Dz.isNon_ty, Dz.rAddU, Dz.rSub, Dz.rMod, Dz.rDiv, Dz.rPow, Dz.rLt, Dz.rLe, Dz.rGt, Dz.rGe, Dz.rEq, Dz.rNe, Dz.rEqv, Dz.rInt2, Dz.rMax2, Dz.rMin2, Dz.rI, Dz.rCmp, Dz.rIxU, Dz.rAbs, Dz.rToInt, Dz.rListU, Dz.rSlU, Dz.trk, Dz.rLenU, Dz.rMulU, Dz.rNeg, Dz.startD, Dz.wipeD, Dz.Tr.d, Dz.Sg.put_M, Dz.Sg.put_n, Dz.Sg.put_pv, Dz.Sg.del_M, Dz.Sg.del_n, Dz.Sg.del_pv, Dz.Mm.put_same, Dz.Mm.put_put, Dz.Sg.put_put, Dz.Mm.put_ne, Dz.Mm.del_ne, Dz.rIsi, Dz.tyN, Dz.tyNames, Dz.isiT, Dz.subT, Dz.tyOk, Dz.tyNames, Dz.pyOf, Dz.toPy, Dz.toPys, Dz.Sg.put_mk, Dz.Sg.del_mk, Dz.spend_M, Dz.spend_pv, Dz.spend_n, Dz.spend_spend, Dz.spend_put, Dz.spend_del, Dz.spNext_iff, Dz.asI_lst, Dz.asI_tup, Dz.dFJ, Dz.dJs, Dz.dFmt, Dz.Tr.isNil, List.map_cons, List.map_nil, List.length_cons, List.length_nil, List.length_map, List.length_set, List.replicate, Nat.reduceSub, Nat.reduceAdd, List.cons_append, List.nil_append, List.getElem?_cons_zero, List.getElem?_cons_succ, List.set_cons_zero, List.set_cons_succ, if_true, if_false, Bool.false_eq_true, id, Nat.sub_zero, Bool.not_true, Bool.not_false, true_and, and_true, ne_eq, not_false_eq_true, not_true_eq_false, reduceCtorEq, Option.map_some, Option.bind_some, String.reduceBEq, Bool.or_false, Bool.or_true, Bool.false_or, Bool.true_or, Bool.and_true, Bool.and_false, Bool.true_and, Bool.false_and, decide_true, decide_false, List.all_cons, List.all_nil, List.any_cons, List.any_nil, beq_self_eq_true, t_size_of, spT_iff]
    simp only [Tr.depth] at hd
    exact ⟨by omega, by omega, .of (by simpa [Tr.size] using hR)⟩
def spFac : SpD := fun ws s R _ => ∃ n : Nat, ws = [.int n] ∧ n ≤ 20 ∧ R (.int (fac n)) s
theorem spFac_iff {n : Nat} {s : Sg} {R : KD} {E : XD} : spFac [.int n] s R E ↔ n ≤ 20 ∧ R (.int (fac n)) s := by
  constructor
  · rintro ⟨m, e, h⟩
    simp only [List.cons.injEq, D.int.injEq, and_true] at e
    have : m = n := by omega
    subst this
    exact h
  · exact fun h => ⟨n, rfl, h⟩
theorem e_factorial : ∀ ws s R, spFac ws s R X0 → ws.length = 1 ∧ t_factorial { nx := fun _ s' => Lw R .non s', rt := Lw R } (Dz.startD N_factorial ws) s := by
  rintro ws s R ⟨n, rfl, hn, hR⟩
  refine ⟨rfl, ?_⟩
  simp only [Dz.dSeq, Dz.dIf, Dz.dB, Dz.dOp, Dz.dUn, Dz.dVar, Dz.dC, Dz.dRet, Dz.dRetN, Dz.dNx, Dz.dBrk, Dz.dCnt, Dz.dAsg, Dz.dSet, Dz.dPar, Dz.dPar3, Dz.dgT, Dz.dgTt, Dz.dgCons, Dz.dgNil, Dz.dgN, Dz.dCall, Dz.dCons, Dz.dNil, Dz.dTup, Dz.dCB, Dz.dCN, Dz.dF, Dz.dM, Dz.dSz, Dz.dExpr, Dz.dNot, Dz.dAnd, Dz.dOr, Dz.dAndV, Dz.dOrV, Dz.dNotV, Dz.dIfE, Dz.dChain, Dz.dFrz, Dz.dIt, Dz.dRng1, Dz.dRng2, Dz.dSl, Dz.dNoPart, Dz.dPart, Dz.dCat, Dz.dRep, Dz.dLc, Dz.dFor, Dz.dAppend, Dz.dPop, Dz.dPopAt, Dz.rPopAtD, Dz.dSetIx, Dz.dYes, Dz.dRev, Dz.asI, Dz.asQ, Dz.asL, Dz.rIsN, Dz.rIs, Dz.rIsNot, Dz.isNon_d, Dz.isNon_non, Dz.isNon_tup, Dz.isNon_lst, Dz.isNon_str, Dz.isNon_int, Dz.isNon_bl, Dz.isNon_ref, Dz.isNon_dic, Dz.isNon_ty, Dz.rAddU, Dz.rSub, Dz.rMod, Dz.rDiv, Dz.rPow, Dz.rLt, Dz.rLe, Dz.rGt, Dz.rGe, Dz.rEq, Dz.rNe, Dz.rEqv, Dz.rInt2, Dz.rMax2, Dz.rMin2, Dz.rI, Dz.rCmp, Dz.rIxU, Dz.rAbs, Dz.rToInt, Dz.rListU, Dz.rSlU, Dz.trk, Dz.rLenU, Dz.rMulU, Dz.rNeg, Dz.startD, Dz.wipeD, Dz.Tr.d, Dz.Sg.put_M, Dz.Sg.put_n, Dz.Sg.put_pv, Dz.Sg.del_M, Dz.Sg.del_n, Dz.Sg.del_pv, Dz.Mm.put_same, Dz.Mm.put_put, Dz.Sg.put_put, Dz.Mm.put_ne, Dz.Mm.del_ne, Dz.rIsi, Dz.tyN, Dz.tyNames, Dz.isiT, Dz.subT, Dz.tyOk, Dz.tyNames, Dz.pyOf, Dz.toPy, Dz.toPys, Dz.Sg.put_mk, Dz.Sg.del_mk, Dz.spend_M, Dz.spend_pv, Dz.spend_n, Dz.spend_spend, Dz.spend_put, Dz.spend_del, Dz.spNext_iff, Dz.asI_lst, Dz.asI_tup, Dz.dFJ, Dz.dJs, Dz.dFmt, Dz.Tr.isNil, List.map_cons, List.map_nil, List.length_cons, List.length_nil, List.length_map, List.length_set, List.replicate, Nat.reduceSub, Nat.reduceAdd, List.cons_append, List.nil_append, List.getElem?_cons_zero, List.getElem?_cons_succ, List.set_cons_zero, List.set_cons_succ, if_true, if_false, Bool.false_eq_true, id, Nat.sub_zero, Bool.not_true, Bool.not_false, true_and, and_true, ne_eq, not_false_eq_true, not_true_eq_false, reduceCtorEq, Option.map_some, Option.bind_some, String.reduceBEq, Bool.or_false, Bool.or_true, Bool.false_or, Bool.true_or, Bool.and_true, Bool.and_false, Bool.true_and, Bool.false_and, decide_true, decide_false, List.all_cons, List.all_nil, List.any_cons, List.any_nil, beq_self_eq_true, t_factorial, dAug]
  refine ⟨⟨by omega, by omega, by omega, by omega⟩, ?_⟩
  refine for_inv (fun l env s' => ∃ (k : Nat) (e2 : Option D), k ≤ n ∧ l = rg (2 + ((k : Int) - 1)) (n - k) ∧ env = [some (.int n), some (.int (fac k)), e2] ∧ s' = s) ?_ ?_ ?_
  · rintro env s' ⟨k, e2, hk, hl, rfl, rfl⟩
    have hz : n - k = 0 := by
      have := congrArg List.length hl
      rw [rg_len, List.length_nil] at this
      omega
    have : k = n := by omega
    subst this
    simp only [Dz.dSeq, Dz.dIf, Dz.dB, Dz.dOp, Dz.dUn, Dz.dVar, Dz.dC, Dz.dRet, Dz.dRetN, Dz.dNx, Dz.dBrk, Dz.dCnt, Dz.dAsg, Dz.dSet, Dz.dPar, Dz.dPar3, Dz.dgT, Dz.dgTt, Dz.dgCons, Dz.dgNil, Dz.dgN, Dz.dCall, Dz.dCons, Dz.dNil, Dz.dTup, Dz.dCB, Dz.dCN, Dz.dF, Dz.dM, Dz.dSz, Dz.dExpr, Dz.dNot, Dz.dAnd, Dz.dOr, Dz.dAndV, Dz.dOrV, Dz.dNotV, Dz.dIfE, Dz.dChain, Dz.dFrz, Dz.dIt, Dz.dRng1, Dz.dRng2, Dz.dSl, Dz.dNoPart, Dz.dPart, Dz.dCat, Dz.dRep, Dz.dLc, Dz.dFor, Dz.dAppend, Dz.dPop, Dz.dPopAt, Dz.rPopAtD, Dz.dSetIx, Dz.dYes, Dz.dRev, Dz.asI, Dz.asQ, Dz.asL, Dz.rIsN, Dz.rIs, Dz.rIsNot, Dz.isNon_d, Dz.isNon_non, Dz.isNon_tup, Dz.isNon_lst, Dz.isNon_str, Dz.isNon_int, Dz.isNon_bl, Dz.isNon_ref, Dz.isNon_dic, Dz.isNon_ty, Dz.rAddU, Dz.rSub, Dz.rMod, Dz.rDiv, Dz.rPow, Dz.rLt, Dz.rLe, Dz.rGt, Dz.rGe, Dz.rEq, Dz.rNe, Dz.rEqv, Dz.rInt2, Dz.rMax2, Dz.rMin2, Dz.rI, Dz.rCmp, Dz.rIxU, Dz.rAbs, Dz.rToInt, Dz.rListU, Dz.rSlU, Dz.trk, Dz.rLenU, Dz.rMulU, Dz.rNeg, Dz.startD, Dz.wipeD, Dz.Tr.d, Dz.Sg.put_M, Dz.Sg.put_n, Dz.Sg.put_pv, Dz.Sg.del_M, Dz.Sg.del_n, Dz.Sg.del_pv, Dz.Mm.put_same, Dz.Mm.put_put, Dz.Sg.put_put, Dz.Mm.put_ne, Dz.Mm.del_ne, Dz.rIsi, Dz.tyN, Dz.tyNames, Dz.isiT, Dz.subT, Dz.tyOk, Dz.tyNames, Dz.pyOf, Dz.toPy, Dz.toPys, Dz.Sg.put_mk, Dz.Sg.del_mk, Dz.spend_M, Dz.spend_pv, Dz.spend_n, Dz.spend_spend, Dz.spend_put, Dz.spend_del, Dz.spNext_iff, Dz.asI_lst, Dz.asI_tup, Dz.dFJ, Dz.dJs, Dz.dFmt, Dz.Tr.isNil, List.map_cons, List.map_nil, List.length_cons, List.length_nil, List.length_map, List.length_set, List.replicate, Nat.reduceSub, Nat.reduceAdd, List.cons_append, List.nil_append, List.getElem?_cons_zero, List.getElem?_cons_succ, List.set_cons_zero, List.set_cons_succ, if_true, if_false, Bool.false_eq_true, id, Nat.sub_zero, Bool.not_true, Bool.not_false, true_and, and_true, ne_eq, not_false_eq_true, not_true_eq_false, reduceCtorEq, Option.map_some, Option.bind_some, String.reduceBEq, Bool.or_false, Bool.or_true, Bool.false_or, Bool.true_or, Bool.and_true, Bool.and_false, Bool.true_and, Bool.false_and, decide_true, decide_false, List.all_cons, List.all_nil, List.any_cons, List.any_nil, beq_self_eq_true]
    exact .of hR
  · rintro x r env s' N ⟨k, e2, hk, hl, rfl, rfl⟩ hN
    obtain ⟨m, hm⟩ : ∃ m, n - k = m + 1 := by
      cases hq : n - k with
      | zero => rw [hq] at hl; cases hl
      | succ m => exact ⟨m, rfl⟩
    rw [hm] at hl
    have e : rg (2 + ((k : Int) - 1)) (m + 1) = .int (k + 1) :: rg (2 + (((k + 1 : Nat) : Int) - 1)) m := by
      unfold rg
      rw [List.range_succ_eq_map, List.map_cons, List.map_map]
      congr 1
      · congr 1; omega
      · apply List.map_congr_left
        intro i _
        simp only [Function.comp]
        congr 1
        omega
    rw [e] at hl
    obtain ⟨rfl, rfl⟩ := List.cons.inj hl
    simp only [Dz.dSeq, Dz.dIf, Dz.dB, Dz.dOp, Dz.dUn, Dz.dVar, Dz.dC, Dz.dRet, Dz.dRetN, Dz.dNx, Dz.dBrk, Dz.dCnt, Dz.dAsg, Dz.dSet, Dz.dPar, Dz.dPar3, Dz.dgT, Dz.dgTt, Dz.dgCons, Dz.dgNil, Dz.dgN, Dz.dCall, Dz.dCons, Dz.dNil, Dz.dTup, Dz.dCB, Dz.dCN, Dz.dF, Dz.dM, Dz.dSz, Dz.dExpr, Dz.dNot, Dz.dAnd, Dz.dOr, Dz.dAndV, Dz.dOrV, Dz.dNotV, Dz.dIfE, Dz.dChain, Dz.dFrz, Dz.dIt, Dz.dRng1, Dz.dRng2, Dz.dSl, Dz.dNoPart, Dz.dPart, Dz.dCat, Dz.dRep, Dz.dLc, Dz.dFor, Dz.dAppend, Dz.dPop, Dz.dPopAt, Dz.rPopAtD, Dz.dSetIx, Dz.dYes, Dz.dRev, Dz.asI, Dz.asQ, Dz.asL, Dz.rIsN, Dz.rIs, Dz.rIsNot, Dz.isNon_d, Dz.isNon_non, Dz.isNon_tup, Dz.isNon_lst, Dz.isNon_str, Dz.isNon_int, Dz.isNon_bl, Dz.isNon_ref, Dz.isNon_dic, Dz.isNon_ty, Dz.rAddU, Dz.rSub, Dz.rMod, Dz.rDiv, Dz.rPow, Dz.rLt, Dz.rLe, Dz.rGt, Dz.rGe, Dz.rEq, Dz.rNe, Dz.rEqv, Dz.rInt2, Dz.rMax2, Dz.rMin2, Dz.rI, Dz.rCmp, Dz.rIxU, Dz.rAbs, Dz.rToInt, Dz.rListU, Dz.rSlU, Dz.trk, Dz.rLenU, Dz.rMulU, Dz.rNeg, Dz.startD, Dz.wipeD, Dz.Tr.d, Dz.Sg.put_M, Dz.Sg.put_n, Dz.Sg.put_pv, Dz.Sg.del_M, Dz.Sg.del_n, Dz.Sg.del_pv, Dz.Mm.put_same, Dz.Mm.put_put, Dz.Sg.put_put, Dz.Mm.put_ne, Dz.Mm.del_ne, Dz.rIsi, Dz.tyN, Dz.tyNames, Dz.isiT, Dz.subT, Dz.tyOk, Dz.tyNames, Dz.pyOf, Dz.toPy, Dz.toPys, Dz.Sg.put_mk, Dz.Sg.del_mk, Dz.spend_M, Dz.spend_pv, Dz.spend_n, Dz.spend_spend, Dz.spend_put, Dz.spend_del, Dz.spNext_iff, Dz.asI_lst, Dz.asI_tup, Dz.dFJ, Dz.dJs, Dz.dFmt, Dz.Tr.isNil, List.map_cons, List.map_nil, List.length_cons, List.length_nil, List.length_map, List.length_set, List.replicate, Nat.reduceSub, Nat.reduceAdd, List.cons_append, List.nil_append, List.getElem?_cons_zero, List.getElem?_cons_succ, List.set_cons_zero, List.set_cons_succ, if_true, if_false, Bool.false_eq_true, id, Nat.sub_zero, Bool.not_true, Bool.not_false, true_and, and_true, ne_eq, not_false_eq_true, not_true_eq_false, reduceCtorEq, Option.map_some, Option.bind_some, String.reduceBEq, Bool.or_false, Bool.or_true, Bool.false_or, Bool.true_or, Bool.and_true, Bool.and_false, Bool.true_and, Bool.false_and, decide_true, decide_false, List.all_cons, List.all_nil, List.any_cons, List.any_nil, beq_self_eq_true, dAug]
    refine ⟨cmul_r (by omega) (by omega), hN _ _ ⟨k + 1, some (.int ((k : Int) + 1)), by omega, by rw [show n - (k + 1) = m by omega], ?_, rfl⟩⟩
    rw [show ((fac k : Int) * ((k : Int) + 1)) = ((fac (k + 1) : Nat) : Int) by rw [fac, Int.natCast_mul]; rw [Int.mul_comm]; rfl]
  · by_cases h : n = 0
    · subst h
      exact ⟨0, none, by omega, rfl, rfl, rfl⟩
    · refine ⟨1, none, by omega, ?_, rfl, rfl⟩
      rw [show ((n : Int) + 1 - 2).toNat = n - 1 by omega]
      rfl
/-- of one tree, of at most twelve nodes -/
def spTz (g : Tr → D) (n : Nat) : SpD := fun ws s R _ => ∃ t : Tr, ws = [t.d] ∧ t.depth < n ∧ t.size ≤ 12 ∧ R (g t) s
theorem spTz_iff {g : Tr → D} {n : Nat} {t : Tr} {s : Sg} {R : KD} {E : XD} : spTz g n [t.d] s R E ↔ t.depth < n ∧ t.size ≤ 12 ∧ R (g t) s := by
  constructor
  · rintro ⟨u, e, h⟩
    simp only [List.cons.injEq, and_true] at e
    rw [Tr.d_inj e]
    exact h
  · exact fun h => ⟨t, rfl, h⟩
theorem e_product_of_sizes (n : Nat) : ∀ ws s R, spTz (fun t => .int (prd t)) (n + 1) ws s R X0 → ws.length = 1 ∧ t_product_of_sizes (spT (fun t => .int t.size) 62) (spTz (fun t => .int (prd t)) n) { nx := fun _ s' => Lw R .non s', rt := Lw R } (Dz.startD N_product_of_sizes ws) s := by
  rintro ws s R ⟨t, rfl, hd, hz, hR⟩
  refine ⟨rfl, ?_⟩
  cases t with
  | nil =>
    simp only [Dz.dSeq, Dz.dIf, Dz.dB, Dz.dOp, Dz.dUn, Dz.dVar, Dz.dC, Dz.dRet, Dz.dRetN, Dz.dNx, Dz.dBrk, Dz.dCnt, Dz.dAsg, Dz.dSet, Dz.dPar, Dz.dPar3, Dz.dgT, Dz.dgTt, Dz.dgCons, Dz.dgNil, Dz.dgN, Dz.dCall, Dz.dCons, Dz.dNil, Dz.dTup, Dz.dCB, Dz.dCN, Dz.dF, Dz.dM, Dz.dSz, Dz.dExpr, Dz.dNot, Dz.dAnd, Dz.dOr, Dz.dAndV, Dz.dOrV, Dz.dNotV, Dz.dIfE, Dz.dChain, Dz.dFrz, Dz.dIt, Dz.dRng1, Dz.dRng2, Dz.dSl, Dz.dNoPart, Dz.dPart, Dz.dCat, Dz.dRep, Dz.dLc, Dz.dFor, Dz.dAppend, Dz.dPop, Dz.dPopAt, Dz.rPopAtD, Dz.dSetIx, Dz.dYes, Dz.dRev, Dz.asI, Dz.asQ, Dz.asL, Dz.rIsN, Dz.rIs, Dz.rIsNot, Dz.isNon_d, Dz.isNon_non, Dz.isNon_tup, Dz.isNon_lst, Dz.isNon_str, Dz.isNon_int, Dz.isNon_bl, Dz.isNon_ref, Dz.isNon_dic, Dz.isNon_ty, Dz.rAddU, Dz.rSub, Dz.rMod, Dz.rDiv, Dz.rPow, Dz.rLt, Dz.rLe, Dz.rGt, Dz.rGe, Dz.rEq, Dz.rNe, Dz.rEqv, Dz.rInt2, Dz.rMax2, Dz.rMin2, Dz.rI, Dz.rCmp, Dz.rIxU, Dz.rAbs, Dz.rToInt, Dz.rListU, Dz.rSlU, Dz.trk, Dz.rLenU, Dz.rMulU, Dz.rNeg, Dz.startD, Dz.wipeD, Dz.Tr.d, Dz.Sg.put_M, Dz.Sg.put_n, Dz.Sg.put_pv, Dz.Sg.del_M, Dz.Sg.del_n, Dz.Sg.del_pv, Dz.Mm.put_same, Dz.Mm.put_put, Dz.Sg.put_put, Dz.Mm.put_ne, Dz.Mm.del_ne, Dz.rIsi, Dz.tyN, Dz.tyNames, Dz.isiT, Dz.subT, Dz.tyOk, Dz.tyNames, Dz.pyOf, Dz.toPy, Dz.toPys, Dz.Sg.put_mk, Dz.Sg.del_mk, Dz.spend_M, Dz.spend_pv, Dz.spend_n, Dz.spend_spend, Dz.spend_put, Dz.spend_del, Dz.spNext_iff, Dz.asI_lst, Dz.asI_tup, Dz.dFJ, Dz.dJs, Dz.dFmt, Dz.Tr.isNil, List.map_cons, List.map_nil, List.length_cons, List.length_nil, List.length_map, List.length_set, List.replicate, Nat.reduceSub, Nat.reduceAdd, List.cons_append, List.nil_append, List.getElem?_cons_zero, List.getElem?_cons_succ, List.set_cons_zero, List.set_cons_succ, if_true, if_false, Bool.false_eq_true, id, Nat.sub_zero, Bool.not_true, Bool.not_false, true_and, and_true, ne_eq, not_false_eq_true, not_true_eq_false, reduceCtorEq, Option.map_some, Option.bind_some, String.reduceBEq, Bool.or_false, Bool.or_true, Bool.false_or, Bool.true_or, Bool.and_true, Bool.and_false, Bool.true_and, Bool.false_and, decide_true, decide_false, List.all_cons, List.all_nil, List.any_cons, List.any_nil, beq_self_eq_true, t_product_of_sizes]
    exact .of hR
  | node l a r =>
    have hh := Tr.depth_le (.node l a r)
    simp only [Dz.dSeq, Dz.dIf, Dz.dB, Dz.dOp, Dz.dUn, Dz.dVar, Dz.dC, Dz.dRet, Dz.dRetN, Dz.dNx, Dz.dBrk, Dz.dCnt, Dz.dAsg, Dz.dSet, Dz.dPar, Dz.dPar3, Dz.dgT, Dz.dgTt, Dz.dgCons, Dz.dgNil, Dz.dgN, Dz.dCall, Dz.dCons, Dz.dNil, Dz.dTup, Dz.dCB, Dz.dCN, Dz.dF, Dz.dM, Dz.dSz, Dz.dExpr, Dz.dNot, Dz.dAnd, Dz.dOr, Dz.dAndV, Dz.dOrV, Dz.dNotV, Dz.dIfE, Dz.dChain, Dz.dFrz, Dz.dIt, Dz.dRng1, Dz.dRng2, Dz.dSl, Dz.dNoPart, Dz.dPart, Dz.dCat, Dz.dRep, Dz.dLc, Dz.dFor, Dz.dAppend, Dz.dPop, Dz.dPopAt, Dz.rPopAtD, Dz.dSetIx, Dz.dYes, Dz.dRev, Dz.asI, Dz.asQ, Dz.asL, Dz.rIsN, Dz.rIs, Dz.rIsNot, Dz.isNon_d, Dz.isNon_non, Dz.isNon_tup, Dz.isNon_lst, Dz.isNon_str, Dz.isNon_int, Dz.isNon_bl, Dz.isNon_ref, Dz.isNon_dic, Dz.isNon_ty, Dz.rAddU, Dz.rSub, Dz.rMod, Dz.rDiv, Dz.rPow, Dz.rLt, Dz.rLe, Dz.rGt, Dz.rGe, Dz.rEq, Dz.rNe, Dz.rEqv, Dz.rInt2, Dz.rMax2, Dz.rMin2, Dz.rI, Dz.rCmp, Dz.rIxU, Dz.rAbs, Dz.rToInt, Dz.rListU, Dz.rSlU, Dz.trk, Dz.rLenU, Dz.rMulU, Dz.rNeg, Dz.startD, Dz.wipeD, Dz.Sg.put_M, Dz.Sg.put_n, Dz.Sg.put_pv, Dz.Sg.del_M, Dz.Sg.del_n, Dz.Sg.del_pv, Dz.Mm.put_same, Dz.Mm.put_put, Dz.Sg.put_put, Dz.Mm.put_ne, Dz.Mm.del_ne, Dz.rIsi, Dz.tyN, Dz.tyNames, Dz.isiT, Dz.subT, Dz.tyOk, Dz.tyNames, Dz.pyOf, Dz.toPy, Dz.toPys, Dz.Sg.put_mk, Dz.Sg.del_mk, Dz.spend_M, Dz.spend_pv, Dz.spend_n, Dz.spend_spend, Dz.spend_put, Dz.spend_del, Dz.spNext_iff, Dz.asI_lst, Dz.asI_tup, Dz.dFJ, Dz.dJs, Dz.dFmt, Dz.Tr.isNil, List.map_cons, List.map_nil, List.length_cons, List.length_nil, List.length_map, List.length_set, List.replicate, Nat.reduceSub, Nat.reduceAdd, List.cons_append, List.nil_append, List.getElem?_cons_zero, List.getElem?_cons_succ, List.set_cons_zero, List.set_cons_succ, if_true, if_false, Bool.false_eq_true, id, Nat.sub_zero, Bool.not_true, Bool.not_false, true_and, and_true, ne_eq, not_false_eq_true, not_true_eq_false, reduceCtorEq, Option.map_some, Option.bind_some, String.reduceBEq, Bool.or_false, Bool.or_true, Bool.false_or, Bool.true_or, Bool.and_true, Bool.and_false, Bool.true_and, Bool.false_and, decide_true, decide_false, List.all_cons, List.all_nil, List.any_cons, List.any_nil, beq_self_eq_true, t_product_of_sizes, spT_iff, spTz_iff]
    simp only [Tr.d]
    simp only [Dz.dSeq, Dz.dIf, Dz.dB, Dz.dOp, Dz.dUn, Dz.dVar, Dz.dC, Dz.dRet, Dz.dRetN, Dz.dNx, Dz.dBrk, Dz.dCnt, Dz.dAsg, Dz.dSet, Dz.dPar, Dz.dPar3, Dz.dgT, Dz.dgTt, Dz.dgCons, Dz.dgNil, Dz.dgN, Dz.dCall, Dz.dCons, Dz.dNil, Dz.dTup, Dz.dCB, Dz.dCN, Dz.dF, Dz.dM, Dz.dSz, Dz.dExpr, Dz.dNot, Dz.dAnd, Dz.dOr, Dz.dAndV, Dz.dOrV, Dz.dNotV, Dz.dIfE, Dz.dChain, Dz.dFrz, Dz.dIt, Dz.dRng1, Dz.dRng2, Dz.dSl, Dz.dNoPart, Dz.dPart, Dz.dCat, Dz.dRep, Dz.dLc, Dz.dFor, Dz.dAppend, Dz.dPop, Dz.dPopAt, Dz.rPopAtD, Dz.dSetIx, Dz.dYes, Dz.dRev, Dz.asI, Dz.asQ, Dz.asL, Dz.rIsN, Dz.rIs, Dz.rIsNot, Dz.isNon_d, Dz.isNon_non, Dz.isNon_tup, Dz.isNon_lst, Dz.isNon_str, Dz.isNon_int, Dz.isNon_bl, Dz.isNon_ref, Dz.isNon_dic, Dz.isNon_ty, Dz.rAddU, Dz.rSub, Dz.rMod, Dz.rDiv, Dz.rPow, Dz.rLt, Dz.rLe, Dz.rGt, Dz.rGe, Dz.rEq, Dz.rNe, Dz.rEqv, Dz.rInt2, Dz.rMax2, Dz.rMin2, Dz.rI, Dz.rCmp, Dz.rIxU, Dz.rAbs, Dz.rToInt, Dz.rListU, Dz.rSlU, Dz.trk, Dz.rLenU, Dz.rMulU, Dz.rNeg, Dz.startD, Dz.wipeD, Dz.Tr.d, Dz.Sg.put_M, Dz.Sg.put_n, Dz.Sg.put_pv, Dz.Sg.del_M, Dz.Sg.del_n, Dz.Sg.del_pv, Dz.Mm.put_same, Dz.Mm.put_put, Dz.Sg.put_put, Dz.Mm.put_ne, Dz.Mm.del_ne, Dz.rIsi, Dz.tyN, Dz.tyNames, Dz.isiT, Dz.subT, Dz.tyOk, Dz.tyNames, Dz.pyOf, Dz.toPy, Dz.toPys, Dz.Sg.put_mk, Dz.Sg.del_mk, Dz.spend_M, Dz.spend_pv, Dz.spend_n, Dz.spend_spend, Dz.spend_put, Dz.spend_del, Dz.spNext_iff, Dz.asI_lst, Dz.asI_tup, Dz.dFJ, Dz.dJs, Dz.dFmt, Dz.Tr.isNil, List.map_cons, List.map_nil, List.length_cons, List.length_nil, List.length_map, List.length_set, List.replicate, Nat.reduceSub, Nat.reduceAdd, List.cons_append, List.nil_append, List.getElem?_cons_zero, List.getElem?_cons_succ, List.set_cons_zero, List.set_cons_succ, if_true, if_false, Bool.false_eq_true, id, Nat.sub_zero, Bool.not_true, Bool.not_false, true_and, and_true, ne_eq, not_false_eq_true, not_true_eq_false, reduceCtorEq, Option.map_some, Option.bind_some, String.reduceBEq, Bool.or_false, Bool.or_true, Bool.false_or, Bool.true_or, Bool.and_true, Bool.and_false, Bool.true_and, Bool.false_and, decide_true, decide_false, List.all_cons, List.all_nil, List.any_cons, List.any_nil, beq_self_eq_true, spT_iff, spTz_iff]
    simp only [Tr.depth, Tr.size] at hd hz hh
    have h1 := prd_le (t := l) (by omega)
    have h2 := prd_le (t := r) (by omega)
    refine ⟨by simp only [Tr.depth]; omega, by omega, by omega, cmul_l (by omega) (by simp only [Tr.size]; omega), by omega, by omega, cmul_r (by omega) (by omega), .of ?_⟩
    rw [show ((Tr.node l a r).size : Int) * (prd l : Int) * (prd r : Int) = ((prd (.node l a r) : Nat) : Int) by rw [prd, Int.natCast_mul, Int.natCast_mul]; rfl]
    exact hR
/-- several trees at once -/
def cmix (ts : List Tr) : Nat := ts.foldl (fun f t => f / prd t) (fac (ts.map Tr.size).sum)
def spMix : SpD := fun ws s R _ => ∃ ts : List Tr, ws = [.lst (ts.map Tr.d)] ∧ (ts.map Tr.size).sum ≤ 12 ∧ ts.length ≤ 12 ∧ R (.int (cmix ts)) s
theorem sum_mem : ∀ {ns : List Nat} {n : Nat}, n ∈ ns → n ≤ ns.sum
  | m :: ns, n, h => by
    rw [List.sum_cons]
    rcases List.mem_cons.mp h with rfl | h
    · omega
    · have := sum_mem h; omega
theorem sum_cast (ts : List Tr) : (ts.map fun t => (t.size : Int)).sum = (((ts.map Tr.size).sum : Nat) : Int) := by
  induction ts with
  | nil => rfl
  | cons t ts ih => simp only [List.map_cons, List.sum_cons, ih]; omega
theorem e_count_mixed : ∀ ws s R, spMix ws s R X0 → ws.length = 1 ∧ t_count_mixed spFac (spT (fun t => .int t.size) 62) (spTz (fun t => .int (prd t)) 62) { nx := fun _ s' => Lw R .non s', rt := Lw R } (Dz.startD N_count_mixed ws) s := by
  rintro ws s R ⟨ts, rfl, hz, hl, hR⟩
  refine ⟨rfl, ?_⟩
  have hsz : ∀ t ∈ ts, t.size ≤ 12 ∧ t.depth < 62 := fun t ht => by
    have h1 := sum_mem (List.mem_map_of_mem (f := Tr.size) ht)
    have h2 := t.depth_le
    omega
  simp only [Dz.dSeq, Dz.dIf, Dz.dB, Dz.dOp, Dz.dUn, Dz.dVar, Dz.dC, Dz.dRet, Dz.dRetN, Dz.dNx, Dz.dBrk, Dz.dCnt, Dz.dAsg, Dz.dSet, Dz.dPar, Dz.dPar3, Dz.dgT, Dz.dgTt, Dz.dgCons, Dz.dgNil, Dz.dgN, Dz.dCall, Dz.dCons, Dz.dNil, Dz.dTup, Dz.dCB, Dz.dCN, Dz.dF, Dz.dM, Dz.dSz, Dz.dExpr, Dz.dNot, Dz.dAnd, Dz.dOr, Dz.dAndV, Dz.dOrV, Dz.dNotV, Dz.dIfE, Dz.dChain, Dz.dFrz, Dz.dIt, Dz.dRng1, Dz.dRng2, Dz.dSl, Dz.dNoPart, Dz.dPart, Dz.dCat, Dz.dRep, Dz.dLc, Dz.dFor, Dz.dAppend, Dz.dPop, Dz.dPopAt, Dz.rPopAtD, Dz.dSetIx, Dz.dYes, Dz.dRev, Dz.asI, Dz.asQ, Dz.asL, Dz.rIsN, Dz.rIs, Dz.rIsNot, Dz.isNon_d, Dz.isNon_non, Dz.isNon_tup, Dz.isNon_lst, Dz.isNon_str, Dz.isNon_int, Dz.isNon_bl, Dz.isNon_ref, Dz.isNon_dic, Dz.isNon_ty, Dz.rAddU, Dz.rSub, Dz.rMod, Dz.rDiv, Dz.rPow, Dz.rLt, Dz.rLe, Dz.rGt, Dz.rGe, Dz.rEq, Dz.rNe, Dz.rEqv, Dz.rInt2, Dz.rMax2, Dz.rMin2, Dz.rI, Dz.rCmp, Dz.rIxU, Dz.rAbs, Dz.rToInt, Dz.rListU, Dz.rSlU, Dz.trk, Dz.rLenU, Dz.rMulU, Dz.rNeg, Dz.startD, Dz.wipeD, Dz.Tr.d, Dz.Sg.put_M, Dz.Sg.put_n, Dz.Sg.put_pv, Dz.Sg.del_M, Dz.Sg.del_n, Dz.Sg.del_pv, Dz.Mm.put_same, Dz.Mm.put_put, Dz.Sg.put_put, Dz.Mm.put_ne, Dz.Mm.del_ne, Dz.rIsi, Dz.tyN, Dz.tyNames, Dz.isiT, Dz.subT, Dz.tyOk, Dz.tyNames, Dz.pyOf, Dz.toPy, Dz.toPys, Dz.Sg.put_mk, Dz.Sg.del_mk, Dz.spend_M, Dz.spend_pv, Dz.spend_n, Dz.spend_spend, Dz.spend_put, Dz.spend_del, Dz.spNext_iff, Dz.asI_lst, Dz.asI_tup, Dz.dFJ, Dz.dJs, Dz.dFmt, Dz.Tr.isNil, List.map_cons, List.map_nil, List.length_cons, List.length_nil, List.length_map, List.length_set, List.replicate, Nat.reduceSub, Nat.reduceAdd, List.cons_append, List.nil_append, List.getElem?_cons_zero, List.getElem?_cons_succ, List.set_cons_zero, List.set_cons_succ, if_true, if_false, Bool.false_eq_true, id, Nat.sub_zero, Bool.not_true, Bool.not_false, true_and, and_true, ne_eq, not_false_eq_true, not_true_eq_false, reduceCtorEq, Option.map_some, Option.bind_some, String.reduceBEq, Bool.or_false, Bool.or_true, Bool.false_or, Bool.true_or, Bool.and_true, Bool.and_false, Bool.true_and, Bool.false_and, decide_true, decide_false, List.all_cons, List.all_nil, List.any_cons, List.any_nil, beq_self_eq_true, t_count_mixed]
  refine lc_of Tr.d (fun t => some (.int t.size)) rfl ?_ (by simp only [List.length_nil]; omega) ?_
  · intro t ht k B hk
    simp only [Dz.dSeq, Dz.dIf, Dz.dB, Dz.dOp, Dz.dUn, Dz.dVar, Dz.dC, Dz.dRet, Dz.dRetN, Dz.dNx, Dz.dBrk, Dz.dCnt, Dz.dAsg, Dz.dSet, Dz.dPar, Dz.dPar3, Dz.dgT, Dz.dgTt, Dz.dgCons, Dz.dgNil, Dz.dgN, Dz.dCall, Dz.dCons, Dz.dNil, Dz.dTup, Dz.dCB, Dz.dCN, Dz.dF, Dz.dM, Dz.dSz, Dz.dExpr, Dz.dNot, Dz.dAnd, Dz.dOr, Dz.dAndV, Dz.dOrV, Dz.dNotV, Dz.dIfE, Dz.dChain, Dz.dFrz, Dz.dIt, Dz.dRng1, Dz.dRng2, Dz.dSl, Dz.dNoPart, Dz.dPart, Dz.dCat, Dz.dRep, Dz.dLc, Dz.dFor, Dz.dAppend, Dz.dPop, Dz.dPopAt, Dz.rPopAtD, Dz.dSetIx, Dz.dYes, Dz.dRev, Dz.asI, Dz.asQ, Dz.asL, Dz.rIsN, Dz.rIs, Dz.rIsNot, Dz.isNon_d, Dz.isNon_non, Dz.isNon_tup, Dz.isNon_lst, Dz.isNon_str, Dz.isNon_int, Dz.isNon_bl, Dz.isNon_ref, Dz.isNon_dic, Dz.isNon_ty, Dz.rAddU, Dz.rSub, Dz.rMod, Dz.rDiv, Dz.rPow, Dz.rLt, Dz.rLe, Dz.rGt, Dz.rGe, Dz.rEq, Dz.rNe, Dz.rEqv, Dz.rInt2, Dz.rMax2, Dz.rMin2, Dz.rI, Dz.rCmp, Dz.rIxU, Dz.rAbs, Dz.rToInt, Dz.rListU, Dz.rSlU, Dz.trk, Dz.rLenU, Dz.rMulU, Dz.rNeg, Dz.startD, Dz.wipeD, Dz.Tr.d, Dz.Sg.put_M, Dz.Sg.put_n, Dz.Sg.put_pv, Dz.Sg.del_M, Dz.Sg.del_n, Dz.Sg.del_pv, Dz.Mm.put_same, Dz.Mm.put_put, Dz.Sg.put_put, Dz.Mm.put_ne, Dz.Mm.del_ne, Dz.rIsi, Dz.tyN, Dz.tyNames, Dz.isiT, Dz.subT, Dz.tyOk, Dz.tyNames, Dz.pyOf, Dz.toPy, Dz.toPys, Dz.Sg.put_mk, Dz.Sg.del_mk, Dz.spend_M, Dz.spend_pv, Dz.spend_n, Dz.spend_spend, Dz.spend_put, Dz.spend_del, Dz.spNext_iff, Dz.asI_lst, Dz.asI_tup, Dz.dFJ, Dz.dJs, Dz.dFmt, Dz.Tr.isNil, List.map_cons, List.map_nil, List.length_cons, List.length_nil, List.length_map, List.length_set, List.replicate, Nat.reduceSub, Nat.reduceAdd, List.cons_append, List.nil_append, List.getElem?_cons_zero, List.getElem?_cons_succ, List.set_cons_zero, List.set_cons_succ, if_true, if_false, Bool.false_eq_true, id, Nat.sub_zero, Bool.not_true, Bool.not_false, true_and, and_true, ne_eq, not_false_eq_true, not_true_eq_false, reduceCtorEq, Option.map_some, Option.bind_some, String.reduceBEq, Bool.or_false, Bool.or_true, Bool.false_or, Bool.true_or, Bool.and_true, Bool.and_false, Bool.true_and, Bool.false_and, decide_true, decide_false, List.all_cons, List.all_nil, List.any_cons, List.any_nil, beq_self_eq_true, spT_iff]
    exact ⟨(hsz t ht).2, hk⟩
  · rw [List.nil_append, show (fun t : Tr => some (D.int t.size)) = some ∘ (fun t : Tr => D.int t.size) from rfl, List.filterMap_eq_map]
    refine ⟨.lst (ts.map fun t => .int t.size), ts.map fun t => (t.size : Int), rfl, by simp only [Dz.dSeq, Dz.dIf, Dz.dB, Dz.dOp, Dz.dUn, Dz.dVar, Dz.dC, Dz.dRet, Dz.dRetN, Dz.dNx, Dz.dBrk, Dz.dCnt, Dz.dAsg, Dz.dSet, Dz.dPar, Dz.dPar3, Dz.dgT, Dz.dgTt, Dz.dgCons, Dz.dgNil, Dz.dgN, Dz.dCall, Dz.dCons, Dz.dNil, Dz.dTup, Dz.dCB, Dz.dCN, Dz.dF, Dz.dM, Dz.dSz, Dz.dExpr, Dz.dNot, Dz.dAnd, Dz.dOr, Dz.dAndV, Dz.dOrV, Dz.dNotV, Dz.dIfE, Dz.dChain, Dz.dFrz, Dz.dIt, Dz.dRng1, Dz.dRng2, Dz.dSl, Dz.dNoPart, Dz.dPart, Dz.dCat, Dz.dRep, Dz.dLc, Dz.dFor, Dz.dAppend, Dz.dPop, Dz.dPopAt, Dz.rPopAtD, Dz.dSetIx, Dz.dYes, Dz.dRev, Dz.asI, Dz.asQ, Dz.asL, Dz.rIsN, Dz.rIs, Dz.rIsNot, Dz.isNon_d, Dz.isNon_non, Dz.isNon_tup, Dz.isNon_lst, Dz.isNon_str, Dz.isNon_int, Dz.isNon_bl, Dz.isNon_ref, Dz.isNon_dic, Dz.isNon_ty, Dz.rAddU, Dz.rSub, Dz.rMod, Dz.rDiv, Dz.rPow, Dz.rLt, Dz.rLe, Dz.rGt, Dz.rGe, Dz.rEq, Dz.rNe, Dz.rEqv, Dz.rInt2, Dz.rMax2, Dz.rMin2, Dz.rI, Dz.rCmp, Dz.rIxU, Dz.rAbs, Dz.rToInt, Dz.rListU, Dz.rSlU, Dz.trk, Dz.rLenU, Dz.rMulU, Dz.rNeg, Dz.startD, Dz.wipeD, Dz.Tr.d, Dz.Sg.put_M, Dz.Sg.put_n, Dz.Sg.put_pv, Dz.Sg.del_M, Dz.Sg.del_n, Dz.Sg.del_pv, Dz.Mm.put_same, Dz.Mm.put_put, Dz.Sg.put_put, Dz.Mm.put_ne, Dz.Mm.del_ne, Dz.rIsi, Dz.tyN, Dz.tyNames, Dz.isiT, Dz.subT, Dz.tyOk, Dz.tyNames, Dz.pyOf, Dz.toPy, Dz.toPys, Dz.Sg.put_mk, Dz.Sg.del_mk, Dz.spend_M, Dz.spend_pv, Dz.spend_n, Dz.spend_spend, Dz.spend_put, Dz.spend_del, Dz.spNext_iff, Dz.asI_lst, Dz.asI_tup, Dz.dFJ, Dz.dJs, Dz.dFmt, Dz.Tr.isNil, List.map_cons, List.map_nil, List.length_cons, List.length_nil, List.length_map, List.length_set, List.replicate, Nat.reduceSub, Nat.reduceAdd, List.cons_append, List.nil_append, List.getElem?_cons_zero, List.getElem?_cons_succ, List.set_cons_zero, List.set_cons_succ, if_true, if_false, Bool.false_eq_true, id, Nat.sub_zero, Bool.not_true, Bool.not_false, true_and, and_true, ne_eq, not_false_eq_true, not_true_eq_false, reduceCtorEq, Option.map_some, Option.bind_some, String.reduceBEq, Bool.or_false, Bool.or_true, Bool.false_or, Bool.true_or, Bool.and_true, Bool.and_false, Bool.true_and, Bool.false_and, decide_true, decide_false, List.all_cons, List.all_nil, List.any_cons, List.any_nil, beq_self_eq_true, List.map_map]; rfl, ?_⟩
    rw [sum_cast]
    dsimp only
    rw [spFac_iff]
    refine ⟨by omega, ?_⟩
    refine for_inv (fun l env s' => ∃ (a b : List Tr) (e2 : Option D), l = b.map Tr.d ∧ a ++ b = ts ∧ env = [some (.lst (ts.map Tr.d)), some (.int ((a.foldl (fun f t => f / prd t) (fac (ts.map Tr.size).sum) : Nat) : Int)), e2] ∧ s' = s) ?_ ?_ ⟨[], ts, _, rfl, rfl, rfl, rfl⟩
    · rintro env s' ⟨a, b, e2, hb, hab, rfl, rfl⟩
      cases b with
      | cons _ _ => cases hb
      | nil =>
        rw [List.append_nil] at hab
        subst hab
        simp only [Dz.dSeq, Dz.dIf, Dz.dB, Dz.dOp, Dz.dUn, Dz.dVar, Dz.dC, Dz.dRet, Dz.dRetN, Dz.dNx, Dz.dBrk, Dz.dCnt, Dz.dAsg, Dz.dSet, Dz.dPar, Dz.dPar3, Dz.dgT, Dz.dgTt, Dz.dgCons, Dz.dgNil, Dz.dgN, Dz.dCall, Dz.dCons, Dz.dNil, Dz.dTup, Dz.dCB, Dz.dCN, Dz.dF, Dz.dM, Dz.dSz, Dz.dExpr, Dz.dNot, Dz.dAnd, Dz.dOr, Dz.dAndV, Dz.dOrV, Dz.dNotV, Dz.dIfE, Dz.dChain, Dz.dFrz, Dz.dIt, Dz.dRng1, Dz.dRng2, Dz.dSl, Dz.dNoPart, Dz.dPart, Dz.dCat, Dz.dRep, Dz.dLc, Dz.dFor, Dz.dAppend, Dz.dPop, Dz.dPopAt, Dz.rPopAtD, Dz.dSetIx, Dz.dYes, Dz.dRev, Dz.asI, Dz.asQ, Dz.asL, Dz.rIsN, Dz.rIs, Dz.rIsNot, Dz.isNon_d, Dz.isNon_non, Dz.isNon_tup, Dz.isNon_lst, Dz.isNon_str, Dz.isNon_int, Dz.isNon_bl, Dz.isNon_ref, Dz.isNon_dic, Dz.isNon_ty, Dz.rAddU, Dz.rSub, Dz.rMod, Dz.rDiv, Dz.rPow, Dz.rLt, Dz.rLe, Dz.rGt, Dz.rGe, Dz.rEq, Dz.rNe, Dz.rEqv, Dz.rInt2, Dz.rMax2, Dz.rMin2, Dz.rI, Dz.rCmp, Dz.rIxU, Dz.rAbs, Dz.rToInt, Dz.rListU, Dz.rSlU, Dz.trk, Dz.rLenU, Dz.rMulU, Dz.rNeg, Dz.startD, Dz.wipeD, Dz.Tr.d, Dz.Sg.put_M, Dz.Sg.put_n, Dz.Sg.put_pv, Dz.Sg.del_M, Dz.Sg.del_n, Dz.Sg.del_pv, Dz.Mm.put_same, Dz.Mm.put_put, Dz.Sg.put_put, Dz.Mm.put_ne, Dz.Mm.del_ne, Dz.rIsi, Dz.tyN, Dz.tyNames, Dz.isiT, Dz.subT, Dz.tyOk, Dz.tyNames, Dz.pyOf, Dz.toPy, Dz.toPys, Dz.Sg.put_mk, Dz.Sg.del_mk, Dz.spend_M, Dz.spend_pv, Dz.spend_n, Dz.spend_spend, Dz.spend_put, Dz.spend_del, Dz.spNext_iff, Dz.asI_lst, Dz.asI_tup, Dz.dFJ, Dz.dJs, Dz.dFmt, Dz.Tr.isNil, List.map_cons, List.map_nil, List.length_cons, List.length_nil, List.length_map, List.length_set, List.replicate, Nat.reduceSub, Nat.reduceAdd, List.cons_append, List.nil_append, List.getElem?_cons_zero, List.getElem?_cons_succ, List.set_cons_zero, List.set_cons_succ, if_true, if_false, Bool.false_eq_true, id, Nat.sub_zero, Bool.not_true, Bool.not_false, true_and, and_true, ne_eq, not_false_eq_true, not_true_eq_false, reduceCtorEq, Option.map_some, Option.bind_some, String.reduceBEq, Bool.or_false, Bool.or_true, Bool.false_or, Bool.true_or, Bool.and_true, Bool.and_false, Bool.true_and, Bool.false_and, decide_true, decide_false, List.all_cons, List.all_nil, List.any_cons, List.any_nil, beq_self_eq_true]
        exact .of hR
    · rintro x r env s' N ⟨a, b, e2, hb, hab, rfl, rfl⟩ hN
      cases b with
      | nil => cases hb
      | cons c b =>
        simp only [List.map_cons, List.cons.injEq] at hb
        obtain ⟨rfl, rfl⟩ := hb
        have hc := hsz c (by rw [← hab]; simp)
        have h1 := prd_le hc.1
        have h2 := prd_pos c
        simp only [Dz.dSeq, Dz.dIf, Dz.dB, Dz.dOp, Dz.dUn, Dz.dVar, Dz.dC, Dz.dRet, Dz.dRetN, Dz.dNx, Dz.dBrk, Dz.dCnt, Dz.dAsg, Dz.dSet, Dz.dPar, Dz.dPar3, Dz.dgT, Dz.dgTt, Dz.dgCons, Dz.dgNil, Dz.dgN, Dz.dCall, Dz.dCons, Dz.dNil, Dz.dTup, Dz.dCB, Dz.dCN, Dz.dF, Dz.dM, Dz.dSz, Dz.dExpr, Dz.dNot, Dz.dAnd, Dz.dOr, Dz.dAndV, Dz.dOrV, Dz.dNotV, Dz.dIfE, Dz.dChain, Dz.dFrz, Dz.dIt, Dz.dRng1, Dz.dRng2, Dz.dSl, Dz.dNoPart, Dz.dPart, Dz.dCat, Dz.dRep, Dz.dLc, Dz.dFor, Dz.dAppend, Dz.dPop, Dz.dPopAt, Dz.rPopAtD, Dz.dSetIx, Dz.dYes, Dz.dRev, Dz.asI, Dz.asQ, Dz.asL, Dz.rIsN, Dz.rIs, Dz.rIsNot, Dz.isNon_d, Dz.isNon_non, Dz.isNon_tup, Dz.isNon_lst, Dz.isNon_str, Dz.isNon_int, Dz.isNon_bl, Dz.isNon_ref, Dz.isNon_dic, Dz.isNon_ty, Dz.rAddU, Dz.rSub, Dz.rMod, Dz.rDiv, Dz.rPow, Dz.rLt, Dz.rLe, Dz.rGt, Dz.rGe, Dz.rEq, Dz.rNe, Dz.rEqv, Dz.rInt2, Dz.rMax2, Dz.rMin2, Dz.rI, Dz.rCmp, Dz.rIxU, Dz.rAbs, Dz.rToInt, Dz.rListU, Dz.rSlU, Dz.trk, Dz.rLenU, Dz.rMulU, Dz.rNeg, Dz.startD, Dz.wipeD, Dz.Tr.d, Dz.Sg.put_M, Dz.Sg.put_n, Dz.Sg.put_pv, Dz.Sg.del_M, Dz.Sg.del_n, Dz.Sg.del_pv, Dz.Mm.put_same, Dz.Mm.put_put, Dz.Sg.put_put, Dz.Mm.put_ne, Dz.Mm.del_ne, Dz.rIsi, Dz.tyN, Dz.tyNames, Dz.isiT, Dz.subT, Dz.tyOk, Dz.tyNames, Dz.pyOf, Dz.toPy, Dz.toPys, Dz.Sg.put_mk, Dz.Sg.del_mk, Dz.spend_M, Dz.spend_pv, Dz.spend_n, Dz.spend_spend, Dz.spend_put, Dz.spend_del, Dz.spNext_iff, Dz.asI_lst, Dz.asI_tup, Dz.dFJ, Dz.dJs, Dz.dFmt, Dz.Tr.isNil, List.map_cons, List.map_nil, List.length_cons, List.length_nil, List.length_map, List.length_set, List.replicate, Nat.reduceSub, Nat.reduceAdd, List.cons_append, List.nil_append, List.getElem?_cons_zero, List.getElem?_cons_succ, List.set_cons_zero, List.set_cons_succ, if_true, if_false, Bool.false_eq_true, id, Nat.sub_zero, Bool.not_true, Bool.not_false, true_and, and_true, ne_eq, not_false_eq_true, not_true_eq_false, reduceCtorEq, Option.map_some, Option.bind_some, String.reduceBEq, Bool.or_false, Bool.or_true, Bool.false_or, Bool.true_or, Bool.and_true, Bool.and_false, Bool.true_and, Bool.false_and, decide_true, decide_false, List.all_cons, List.all_nil, List.any_cons, List.any_nil, beq_self_eq_true, dAug, spTz_iff]
        refine ⟨hc.2, hc.1, ⟨by omega, by omega⟩, hN _ _ ⟨a ++ [c], b, some c.d, rfl, by rw [List.append_assoc]; exact hab, ?_, rfl⟩⟩
        rw [List.foldl_append]
        rfl
def spCnt : SpD := fun ws s R _ => ∃ t : Tr, ws = [t.d] ∧ t.size ≤ 12 ∧ R (.int (nmb t)) s
theorem spCnt_iff {t : Tr} {s : Sg} {R : KD} {E : XD} : spCnt [t.d] s R E ↔ t.size ≤ 12 ∧ R (.int (nmb t)) s := by
  constructor
  · rintro ⟨u, e, h⟩
    simp only [List.cons.injEq, and_true] at e
    rw [Tr.d_inj e]
    exact h
  · exact fun h => ⟨t, rfl, h⟩
theorem e_count_orders : ∀ ws s R, spCnt ws s R X0 → ws.length = 1 ∧ t_count_orders spMix { nx := fun _ s' => Lw R .non s', rt := Lw R } (Dz.startD N_count_orders ws) s := by
  rintro ws s R ⟨t, rfl, hz, hR⟩
  refine ⟨rfl, ?_⟩
  simp only [Dz.dSeq, Dz.dIf, Dz.dB, Dz.dOp, Dz.dUn, Dz.dVar, Dz.dC, Dz.dRet, Dz.dRetN, Dz.dNx, Dz.dBrk, Dz.dCnt, Dz.dAsg, Dz.dSet, Dz.dPar, Dz.dPar3, Dz.dgT, Dz.dgTt, Dz.dgCons, Dz.dgNil, Dz.dgN, Dz.dCall, Dz.dCons, Dz.dNil, Dz.dTup, Dz.dCB, Dz.dCN, Dz.dF, Dz.dM, Dz.dSz, Dz.dExpr, Dz.dNot, Dz.dAnd, Dz.dOr, Dz.dAndV, Dz.dOrV, Dz.dNotV, Dz.dIfE, Dz.dChain, Dz.dFrz, Dz.dIt, Dz.dRng1, Dz.dRng2, Dz.dSl, Dz.dNoPart, Dz.dPart, Dz.dCat, Dz.dRep, Dz.dLc, Dz.dFor, Dz.dAppend, Dz.dPop, Dz.dPopAt, Dz.rPopAtD, Dz.dSetIx, Dz.dYes, Dz.dRev, Dz.asI, Dz.asQ, Dz.asL, Dz.rIsN, Dz.rIs, Dz.rIsNot, Dz.isNon_d, Dz.isNon_non, Dz.isNon_tup, Dz.isNon_lst, Dz.isNon_str, Dz.isNon_int, Dz.isNon_bl, Dz.isNon_ref, Dz.isNon_dic, Dz.isNon_ty, Dz.rAddU, Dz.rSub, Dz.rMod, Dz.rDiv, Dz.rPow, Dz.rLt, Dz.rLe, Dz.rGt, Dz.rGe, Dz.rEq, Dz.rNe, Dz.rEqv, Dz.rInt2, Dz.rMax2, Dz.rMin2, Dz.rI, Dz.rCmp, Dz.rIxU, Dz.rAbs, Dz.rToInt, Dz.rListU, Dz.rSlU, Dz.trk, Dz.rLenU, Dz.rMulU, Dz.rNeg, Dz.startD, Dz.wipeD, Dz.Tr.d, Dz.Sg.put_M, Dz.Sg.put_n, Dz.Sg.put_pv, Dz.Sg.del_M, Dz.Sg.del_n, Dz.Sg.del_pv, Dz.Mm.put_same, Dz.Mm.put_put, Dz.Sg.put_put, Dz.Mm.put_ne, Dz.Mm.del_ne, Dz.rIsi, Dz.tyN, Dz.tyNames, Dz.isiT, Dz.subT, Dz.tyOk, Dz.tyNames, Dz.pyOf, Dz.toPy, Dz.toPys, Dz.Sg.put_mk, Dz.Sg.del_mk, Dz.spend_M, Dz.spend_pv, Dz.spend_n, Dz.spend_spend, Dz.spend_put, Dz.spend_del, Dz.spNext_iff, Dz.asI_lst, Dz.asI_tup, Dz.dFJ, Dz.dJs, Dz.dFmt, Dz.Tr.isNil, List.map_cons, List.map_nil, List.length_cons, List.length_nil, List.length_map, List.length_set, List.replicate, Nat.reduceSub, Nat.reduceAdd, List.cons_append, List.nil_append, List.getElem?_cons_zero, List.getElem?_cons_succ, List.set_cons_zero, List.set_cons_succ, if_true, if_false, Bool.false_eq_true, id, Nat.sub_zero, Bool.not_true, Bool.not_false, true_and, and_true, ne_eq, not_false_eq_true, not_true_eq_false, reduceCtorEq, Option.map_some, Option.bind_some, String.reduceBEq, Bool.or_false, Bool.or_true, Bool.false_or, Bool.true_or, Bool.and_true, Bool.and_false, Bool.true_and, Bool.false_and, decide_true, decide_false, List.all_cons, List.all_nil, List.any_cons, List.any_nil, beq_self_eq_true, t_count_orders]
  refine ⟨by decide, [t], rfl, by simpa using hz, by simp, .of ?_⟩
  rw [show cmix [t] = nmb t by rw [← nmb_div]; simp [cmix]]
  exact hR
/-- [size, number] -/
def spNum (n : Nat) : SpD := fun ws s R _ => ∃ t : Tr, ws = [t.d] ∧ t.depth < n ∧ t.size ≤ 12 ∧ R (.lst [.int t.size, .int (nmb t)]) s
theorem spNum_iff {n : Nat} {t : Tr} {s : Sg} {R : KD} {E : XD} : spNum n [t.d] s R E ↔ t.depth < n ∧ t.size ≤ 12 ∧ R (.lst [.int t.size, .int (nmb t)]) s := by
  constructor
  · rintro ⟨u, e, h⟩
    simp only [List.cons.injEq, and_true] at e
    rw [Tr.d_inj e]
    exact h
  · exact fun h => ⟨t, rfl, h⟩
theorem e_law_number (n : Nat) : ∀ ws s R, spNum (n + 1) ws s R X0 → ws.length = 1 ∧ t_law_number (spNum n) { nx := fun _ s' => Lw R .non s', rt := Lw R } (Dz.startD N_law_number ws) s := by
  rintro ws s R ⟨t, rfl, hd, hz, hR⟩
  refine ⟨rfl, ?_⟩
  cases t with
  | nil =>
    simp only [Dz.dSeq, Dz.dIf, Dz.dB, Dz.dOp, Dz.dUn, Dz.dVar, Dz.dC, Dz.dRet, Dz.dRetN, Dz.dNx, Dz.dBrk, Dz.dCnt, Dz.dAsg, Dz.dSet, Dz.dPar, Dz.dPar3, Dz.dgT, Dz.dgTt, Dz.dgCons, Dz.dgNil, Dz.dgN, Dz.dCall, Dz.dCons, Dz.dNil, Dz.dTup, Dz.dCB, Dz.dCN, Dz.dF, Dz.dM, Dz.dSz, Dz.dExpr, Dz.dNot, Dz.dAnd, Dz.dOr, Dz.dAndV, Dz.dOrV, Dz.dNotV, Dz.dIfE, Dz.dChain, Dz.dFrz, Dz.dIt, Dz.dRng1, Dz.dRng2, Dz.dSl, Dz.dNoPart, Dz.dPart, Dz.dCat, Dz.dRep, Dz.dLc, Dz.dFor, Dz.dAppend, Dz.dPop, Dz.dPopAt, Dz.rPopAtD, Dz.dSetIx, Dz.dYes, Dz.dRev, Dz.asI, Dz.asQ, Dz.asL, Dz.rIsN, Dz.rIs, Dz.rIsNot, Dz.isNon_d, Dz.isNon_non, Dz.isNon_tup, Dz.isNon_lst, Dz.isNon_str, Dz.isNon_int, Dz.isNon_bl, Dz.isNon_ref, Dz.isNon_dic, Dz.isNon_ty, Dz.rAddU, Dz.rSub, Dz.rMod, Dz.rDiv, Dz.rPow, Dz.rLt, Dz.rLe, Dz.rGt, Dz.rGe, Dz.rEq, Dz.rNe, Dz.rEqv, Dz.rInt2, Dz.rMax2, Dz.rMin2, Dz.rI, Dz.rCmp, Dz.rIxU, Dz.rAbs, Dz.rToInt, Dz.rListU, Dz.rSlU, Dz.trk, Dz.rLenU, Dz.rMulU, Dz.rNeg, Dz.startD, Dz.wipeD, Dz.Tr.d, Dz.Sg.put_M, Dz.Sg.put_n, Dz.Sg.put_pv, Dz.Sg.del_M, Dz.Sg.del_n, Dz.Sg.del_pv, Dz.Mm.put_same, Dz.Mm.put_put, Dz.Sg.put_put, Dz.Mm.put_ne, Dz.Mm.del_ne, Dz.rIsi, Dz.tyN, Dz.tyNames, Dz.isiT, Dz.subT, Dz.tyOk, Dz.tyNames, Dz.pyOf, Dz.toPy, Dz.toPys, Dz.Sg.put_mk, Dz.Sg.del_mk, Dz.spend_M, Dz.spend_pv, Dz.spend_n, Dz.spend_spend, Dz.spend_put, Dz.spend_del, Dz.spNext_iff, Dz.asI_lst, Dz.asI_tup, Dz.dFJ, Dz.dJs, Dz.dFmt, Dz.Tr.isNil, List.map_cons, List.map_nil, List.length_cons, List.length_nil, List.length_map, List.length_set, List.replicate, Nat.reduceSub, Nat.reduceAdd, List.cons_append, List.nil_append, List.getElem?_cons_zero, List.getElem?_cons_succ, List.set_cons_zero, List.set_cons_succ, if_true, if_false, Bool.false_eq_true, id, Nat.sub_zero, Bool.not_true, Bool.not_false, true_and, and_true, ne_eq, not_false_eq_true, not_true_eq_false, reduceCtorEq, Option.map_some, Option.bind_some, String.reduceBEq, Bool.or_false, Bool.or_true, Bool.false_or, Bool.true_or, Bool.and_true, Bool.and_false, Bool.true_and, Bool.false_and, decide_true, decide_false, List.all_cons, List.all_nil, List.any_cons, List.any_nil, beq_self_eq_true, t_law_number]
    exact ⟨by decide, .of hR⟩
  | node l a r =>
    have i0 : L2.atI [l.d, chr a, r.d] 0 = some l.d := rfl
    have i2 : L2.atI [l.d, chr a, r.d] 2 = some r.d := rfl
    have j0 : L2.atI [D.int l.size, .int (nmb l)] 0 = some (.int l.size) := rfl
    have j1 : L2.atI [D.int l.size, .int (nmb l)] 1 = some (.int (nmb l)) := rfl
    have k0 : L2.atI [D.int r.size, .int (nmb r)] 0 = some (.int r.size) := rfl
    have k1 : L2.atI [D.int r.size, .int (nmb r)] 1 = some (.int (nmb r)) := rfl
    simp only [Tr.depth, Tr.size] at hd hz
    have b1 := nmb_le (t := l) (by omega)
    have b2 := nmb_le (t := r) (by omega)
    simp only [Dz.dSeq, Dz.dIf, Dz.dB, Dz.dOp, Dz.dUn, Dz.dVar, Dz.dC, Dz.dRet, Dz.dRetN, Dz.dNx, Dz.dBrk, Dz.dCnt, Dz.dAsg, Dz.dSet, Dz.dPar, Dz.dPar3, Dz.dgT, Dz.dgTt, Dz.dgCons, Dz.dgNil, Dz.dgN, Dz.dCall, Dz.dCons, Dz.dNil, Dz.dTup, Dz.dCB, Dz.dCN, Dz.dF, Dz.dM, Dz.dSz, Dz.dExpr, Dz.dNot, Dz.dAnd, Dz.dOr, Dz.dAndV, Dz.dOrV, Dz.dNotV, Dz.dIfE, Dz.dChain, Dz.dFrz, Dz.dIt, Dz.dRng1, Dz.dRng2, Dz.dSl, Dz.dNoPart, Dz.dPart, Dz.dCat, Dz.dRep, Dz.dLc, Dz.dFor, Dz.dAppend, Dz.dPop, Dz.dPopAt, Dz.rPopAtD, Dz.dSetIx, Dz.dYes, Dz.dRev, Dz.asI, Dz.asQ, Dz.asL, Dz.rIsN, Dz.rIs, Dz.rIsNot, Dz.isNon_d, Dz.isNon_non, Dz.isNon_tup, Dz.isNon_lst, Dz.isNon_str, Dz.isNon_int, Dz.isNon_bl, Dz.isNon_ref, Dz.isNon_dic, Dz.isNon_ty, Dz.rAddU, Dz.rSub, Dz.rMod, Dz.rDiv, Dz.rPow, Dz.rLt, Dz.rLe, Dz.rGt, Dz.rGe, Dz.rEq, Dz.rNe, Dz.rEqv, Dz.rInt2, Dz.rMax2, Dz.rMin2, Dz.rI, Dz.rCmp, Dz.rIxU, Dz.rAbs, Dz.rToInt, Dz.rListU, Dz.rSlU, Dz.trk, Dz.rLenU, Dz.rMulU, Dz.rNeg, Dz.startD, Dz.wipeD, Dz.Tr.d, Dz.Sg.put_M, Dz.Sg.put_n, Dz.Sg.put_pv, Dz.Sg.del_M, Dz.Sg.del_n, Dz.Sg.del_pv, Dz.Mm.put_same, Dz.Mm.put_put, Dz.Sg.put_put, Dz.Mm.put_ne, Dz.Mm.del_ne, Dz.rIsi, Dz.tyN, Dz.tyNames, Dz.isiT, Dz.subT, Dz.tyOk, Dz.tyNames, Dz.pyOf, Dz.toPy, Dz.toPys, Dz.Sg.put_mk, Dz.Sg.del_mk, Dz.spend_M, Dz.spend_pv, Dz.spend_n, Dz.spend_spend, Dz.spend_put, Dz.spend_del, Dz.spNext_iff, Dz.asI_lst, Dz.asI_tup, Dz.dFJ, Dz.dJs, Dz.dFmt, Dz.Tr.isNil, List.map_cons, List.map_nil, List.length_cons, List.length_nil, List.length_map, List.length_set, List.replicate, Nat.reduceSub, Nat.reduceAdd, List.cons_append, List.nil_append, List.getElem?_cons_zero, List.getElem?_cons_succ, List.set_cons_zero, List.set_cons_succ, if_true, if_false, Bool.false_eq_true, id, Nat.sub_zero, Bool.not_true, Bool.not_false, true_and, and_true, ne_eq, not_false_eq_true, not_true_eq_false, reduceCtorEq, Option.map_some, Option.bind_some, String.reduceBEq, Bool.or_false, Bool.or_true, Bool.false_or, Bool.true_or, Bool.and_true, Bool.and_false, Bool.true_and, Bool.false_and, decide_true, decide_false, List.all_cons, List.all_nil, List.any_cons, List.any_nil, beq_self_eq_true, t_law_number, spNum_iff, i0, i2, j0, j1, k0, k1]
    refine ⟨by omega, by omega, by omega, by omega, cmul_l (by omega) (by omega), by omega, by omega, ?_⟩
    rw [show ((l.size : Nat) : Int).toNat = l.size by omega]
    refine for_rg (fun k env s' => ∃ e5 : Option D, env = [some (.tup [l.d, chr a, r.d]), some (.lst [.int l.size, .int (nmb l)]), some (.lst [.int r.size, .int (nmb r)]), some (.int ((l.size : Int) + r.size)), some (.int ((nmb l * nmb r * dsc (l.size + r.size) k : Nat) : Int)), e5] ∧ s' = s) ⟨none, ?_, rfl⟩ ?_ ?_
    · rw [dsc, Nat.mul_one, Int.natCast_mul]
    · rintro env s' ⟨e5, rfl, rfl⟩
      simp only [Dz.dSeq, Dz.dIf, Dz.dB, Dz.dOp, Dz.dUn, Dz.dVar, Dz.dC, Dz.dRet, Dz.dRetN, Dz.dNx, Dz.dBrk, Dz.dCnt, Dz.dAsg, Dz.dSet, Dz.dPar, Dz.dPar3, Dz.dgT, Dz.dgTt, Dz.dgCons, Dz.dgNil, Dz.dgN, Dz.dCall, Dz.dCons, Dz.dNil, Dz.dTup, Dz.dCB, Dz.dCN, Dz.dF, Dz.dM, Dz.dSz, Dz.dExpr, Dz.dNot, Dz.dAnd, Dz.dOr, Dz.dAndV, Dz.dOrV, Dz.dNotV, Dz.dIfE, Dz.dChain, Dz.dFrz, Dz.dIt, Dz.dRng1, Dz.dRng2, Dz.dSl, Dz.dNoPart, Dz.dPart, Dz.dCat, Dz.dRep, Dz.dLc, Dz.dFor, Dz.dAppend, Dz.dPop, Dz.dPopAt, Dz.rPopAtD, Dz.dSetIx, Dz.dYes, Dz.dRev, Dz.asI, Dz.asQ, Dz.asL, Dz.rIsN, Dz.rIs, Dz.rIsNot, Dz.isNon_d, Dz.isNon_non, Dz.isNon_tup, Dz.isNon_lst, Dz.isNon_str, Dz.isNon_int, Dz.isNon_bl, Dz.isNon_ref, Dz.isNon_dic, Dz.isNon_ty, Dz.rAddU, Dz.rSub, Dz.rMod, Dz.rDiv, Dz.rPow, Dz.rLt, Dz.rLe, Dz.rGt, Dz.rGe, Dz.rEq, Dz.rNe, Dz.rEqv, Dz.rInt2, Dz.rMax2, Dz.rMin2, Dz.rI, Dz.rCmp, Dz.rIxU, Dz.rAbs, Dz.rToInt, Dz.rListU, Dz.rSlU, Dz.trk, Dz.rLenU, Dz.rMulU, Dz.rNeg, Dz.startD, Dz.wipeD, Dz.Tr.d, Dz.Sg.put_M, Dz.Sg.put_n, Dz.Sg.put_pv, Dz.Sg.del_M, Dz.Sg.del_n, Dz.Sg.del_pv, Dz.Mm.put_same, Dz.Mm.put_put, Dz.Sg.put_put, Dz.Mm.put_ne, Dz.Mm.del_ne, Dz.rIsi, Dz.tyN, Dz.tyNames, Dz.isiT, Dz.subT, Dz.tyOk, Dz.tyNames, Dz.pyOf, Dz.toPy, Dz.toPys, Dz.Sg.put_mk, Dz.Sg.del_mk, Dz.spend_M, Dz.spend_pv, Dz.spend_n, Dz.spend_spend, Dz.spend_put, Dz.spend_del, Dz.spNext_iff, Dz.asI_lst, Dz.asI_tup, Dz.dFJ, Dz.dJs, Dz.dFmt, Dz.Tr.isNil, List.map_cons, List.map_nil, List.length_cons, List.length_nil, List.length_map, List.length_set, List.replicate, Nat.reduceSub, Nat.reduceAdd, List.cons_append, List.nil_append, List.getElem?_cons_zero, List.getElem?_cons_succ, List.set_cons_zero, List.set_cons_succ, if_true, if_false, Bool.false_eq_true, id, Nat.sub_zero, Bool.not_true, Bool.not_false, true_and, and_true, ne_eq, not_false_eq_true, not_true_eq_false, reduceCtorEq, Option.map_some, Option.bind_some, String.reduceBEq, Bool.or_false, Bool.or_true, Bool.false_or, Bool.true_or, Bool.and_true, Bool.and_false, Bool.true_and, Bool.false_and, decide_true, decide_false, List.all_cons, List.all_nil, List.any_cons, List.any_nil, beq_self_eq_true, j0]
      refine ⟨by omega, by omega, ?_⟩
      rw [show ((l.size : Nat) : Int).toNat = l.size by omega]
      refine for_rg (fun k env s'' => ∃ e5 : Option D, env = [some (.tup [l.d, chr a, r.d]), some (.lst [.int l.size, .int (nmb l)]), some (.lst [.int r.size, .int (nmb r)]), some (.int ((l.size : Int) + r.size)), some (.int ((nmb l * nmb r * dsc (l.size + r.size) l.size / fac k : Nat) : Int)), e5] ∧ s'' = s') ⟨e5, ?_, rfl⟩ ?_ ?_
      · rw [fac, Nat.div_one]
      · rintro env s'' ⟨e5, rfl, rfl⟩
        simp only [Dz.dSeq, Dz.dIf, Dz.dB, Dz.dOp, Dz.dUn, Dz.dVar, Dz.dC, Dz.dRet, Dz.dRetN, Dz.dNx, Dz.dBrk, Dz.dCnt, Dz.dAsg, Dz.dSet, Dz.dPar, Dz.dPar3, Dz.dgT, Dz.dgTt, Dz.dgCons, Dz.dgNil, Dz.dgN, Dz.dCall, Dz.dCons, Dz.dNil, Dz.dTup, Dz.dCB, Dz.dCN, Dz.dF, Dz.dM, Dz.dSz, Dz.dExpr, Dz.dNot, Dz.dAnd, Dz.dOr, Dz.dAndV, Dz.dOrV, Dz.dNotV, Dz.dIfE, Dz.dChain, Dz.dFrz, Dz.dIt, Dz.dRng1, Dz.dRng2, Dz.dSl, Dz.dNoPart, Dz.dPart, Dz.dCat, Dz.dRep, Dz.dLc, Dz.dFor, Dz.dAppend, Dz.dPop, Dz.dPopAt, Dz.rPopAtD, Dz.dSetIx, Dz.dYes, Dz.dRev, Dz.asI, Dz.asQ, Dz.asL, Dz.rIsN, Dz.rIs, Dz.rIsNot, Dz.isNon_d, Dz.isNon_non, Dz.isNon_tup, Dz.isNon_lst, Dz.isNon_str, Dz.isNon_int, Dz.isNon_bl, Dz.isNon_ref, Dz.isNon_dic, Dz.isNon_ty, Dz.rAddU, Dz.rSub, Dz.rMod, Dz.rDiv, Dz.rPow, Dz.rLt, Dz.rLe, Dz.rGt, Dz.rGe, Dz.rEq, Dz.rNe, Dz.rEqv, Dz.rInt2, Dz.rMax2, Dz.rMin2, Dz.rI, Dz.rCmp, Dz.rIxU, Dz.rAbs, Dz.rToInt, Dz.rListU, Dz.rSlU, Dz.trk, Dz.rLenU, Dz.rMulU, Dz.rNeg, Dz.startD, Dz.wipeD, Dz.Tr.d, Dz.Sg.put_M, Dz.Sg.put_n, Dz.Sg.put_pv, Dz.Sg.del_M, Dz.Sg.del_n, Dz.Sg.del_pv, Dz.Mm.put_same, Dz.Mm.put_put, Dz.Sg.put_put, Dz.Mm.put_ne, Dz.Mm.del_ne, Dz.rIsi, Dz.tyN, Dz.tyNames, Dz.isiT, Dz.subT, Dz.tyOk, Dz.tyNames, Dz.pyOf, Dz.toPy, Dz.toPys, Dz.Sg.put_mk, Dz.Sg.del_mk, Dz.spend_M, Dz.spend_pv, Dz.spend_n, Dz.spend_spend, Dz.spend_put, Dz.spend_del, Dz.spNext_iff, Dz.asI_lst, Dz.asI_tup, Dz.dFJ, Dz.dJs, Dz.dFmt, Dz.Tr.isNil, List.map_cons, List.map_nil, List.length_cons, List.length_nil, List.length_map, List.length_set, List.replicate, Nat.reduceSub, Nat.reduceAdd, List.cons_append, List.nil_append, List.getElem?_cons_zero, List.getElem?_cons_succ, List.set_cons_zero, List.set_cons_succ, if_true, if_false, Bool.false_eq_true, id, Nat.sub_zero, Bool.not_true, Bool.not_false, true_and, and_true, ne_eq, not_false_eq_true, not_true_eq_false, reduceCtorEq, Option.map_some, Option.bind_some, String.reduceBEq, Bool.or_false, Bool.or_true, Bool.false_or, Bool.true_or, Bool.and_true, Bool.and_false, Bool.true_and, Bool.false_and, decide_true, decide_false, List.all_cons, List.all_nil, List.any_cons, List.any_nil, beq_self_eq_true]
        refine ⟨by decide, .of ?_⟩
        rw [dsc_chs _ _ (by omega), ← Nat.mul_assoc, Nat.mul_div_cancel _ (fac_pos _)]
        rw [show ((l.size : Int) + r.size + 1) = (((Tr.node l a r).size : Nat) : Int) by simp only [Tr.size]; omega]
        exact hR
      · rintro k env s'' N hk ⟨e5, rfl, rfl⟩ hN
        simp only [Dz.dSeq, Dz.dIf, Dz.dB, Dz.dOp, Dz.dUn, Dz.dVar, Dz.dC, Dz.dRet, Dz.dRetN, Dz.dNx, Dz.dBrk, Dz.dCnt, Dz.dAsg, Dz.dSet, Dz.dPar, Dz.dPar3, Dz.dgT, Dz.dgTt, Dz.dgCons, Dz.dgNil, Dz.dgN, Dz.dCall, Dz.dCons, Dz.dNil, Dz.dTup, Dz.dCB, Dz.dCN, Dz.dF, Dz.dM, Dz.dSz, Dz.dExpr, Dz.dNot, Dz.dAnd, Dz.dOr, Dz.dAndV, Dz.dOrV, Dz.dNotV, Dz.dIfE, Dz.dChain, Dz.dFrz, Dz.dIt, Dz.dRng1, Dz.dRng2, Dz.dSl, Dz.dNoPart, Dz.dPart, Dz.dCat, Dz.dRep, Dz.dLc, Dz.dFor, Dz.dAppend, Dz.dPop, Dz.dPopAt, Dz.rPopAtD, Dz.dSetIx, Dz.dYes, Dz.dRev, Dz.asI, Dz.asQ, Dz.asL, Dz.rIsN, Dz.rIs, Dz.rIsNot, Dz.isNon_d, Dz.isNon_non, Dz.isNon_tup, Dz.isNon_lst, Dz.isNon_str, Dz.isNon_int, Dz.isNon_bl, Dz.isNon_ref, Dz.isNon_dic, Dz.isNon_ty, Dz.rAddU, Dz.rSub, Dz.rMod, Dz.rDiv, Dz.rPow, Dz.rLt, Dz.rLe, Dz.rGt, Dz.rGe, Dz.rEq, Dz.rNe, Dz.rEqv, Dz.rInt2, Dz.rMax2, Dz.rMin2, Dz.rI, Dz.rCmp, Dz.rIxU, Dz.rAbs, Dz.rToInt, Dz.rListU, Dz.rSlU, Dz.trk, Dz.rLenU, Dz.rMulU, Dz.rNeg, Dz.startD, Dz.wipeD, Dz.Tr.d, Dz.Sg.put_M, Dz.Sg.put_n, Dz.Sg.put_pv, Dz.Sg.del_M, Dz.Sg.del_n, Dz.Sg.del_pv, Dz.Mm.put_same, Dz.Mm.put_put, Dz.Sg.put_put, Dz.Mm.put_ne, Dz.Mm.del_ne, Dz.rIsi, Dz.tyN, Dz.tyNames, Dz.isiT, Dz.subT, Dz.tyOk, Dz.tyNames, Dz.pyOf, Dz.toPy, Dz.toPys, Dz.Sg.put_mk, Dz.Sg.del_mk, Dz.spend_M, Dz.spend_pv, Dz.spend_n, Dz.spend_spend, Dz.spend_put, Dz.spend_del, Dz.spNext_iff, Dz.asI_lst, Dz.asI_tup, Dz.dFJ, Dz.dJs, Dz.dFmt, Dz.Tr.isNil, List.map_cons, List.map_nil, List.length_cons, List.length_nil, List.length_map, List.length_set, List.replicate, Nat.reduceSub, Nat.reduceAdd, List.cons_append, List.nil_append, List.getElem?_cons_zero, List.getElem?_cons_succ, List.set_cons_zero, List.set_cons_succ, if_true, if_false, Bool.false_eq_true, id, Nat.sub_zero, Bool.not_true, Bool.not_false, true_and, and_true, ne_eq, not_false_eq_true, not_true_eq_false, reduceCtorEq, Option.map_some, Option.bind_some, String.reduceBEq, Bool.or_false, Bool.or_true, Bool.false_or, Bool.true_or, Bool.and_true, Bool.and_false, Bool.true_and, Bool.false_and, decide_true, decide_false, List.all_cons, List.all_nil, List.any_cons, List.any_nil, beq_self_eq_true]
        refine ⟨⟨by omega, by omega⟩, hN _ _ ⟨some (.int k), ?_, rfl⟩⟩
        rw [show ((nmb l * nmb r * dsc (l.size + r.size) l.size / fac k : Nat) : Int) / ((k : Int) + 1) = ((nmb l * nmb r * dsc (l.size + r.size) l.size / fac (k + 1) : Nat) : Int) by
          rw [fac, Nat.mul_comm (k + 1), ← Nat.div_div_eq_div_mul]; rfl]
    · rintro k env s' N hk ⟨e5, rfl, rfl⟩ hN
      simp only [Dz.dSeq, Dz.dIf, Dz.dB, Dz.dOp, Dz.dUn, Dz.dVar, Dz.dC, Dz.dRet, Dz.dRetN, Dz.dNx, Dz.dBrk, Dz.dCnt, Dz.dAsg, Dz.dSet, Dz.dPar, Dz.dPar3, Dz.dgT, Dz.dgTt, Dz.dgCons, Dz.dgNil, Dz.dgN, Dz.dCall, Dz.dCons, Dz.dNil, Dz.dTup, Dz.dCB, Dz.dCN, Dz.dF, Dz.dM, Dz.dSz, Dz.dExpr, Dz.dNot, Dz.dAnd, Dz.dOr, Dz.dAndV, Dz.dOrV, Dz.dNotV, Dz.dIfE, Dz.dChain, Dz.dFrz, Dz.dIt, Dz.dRng1, Dz.dRng2, Dz.dSl, Dz.dNoPart, Dz.dPart, Dz.dCat, Dz.dRep, Dz.dLc, Dz.dFor, Dz.dAppend, Dz.dPop, Dz.dPopAt, Dz.rPopAtD, Dz.dSetIx, Dz.dYes, Dz.dRev, Dz.asI, Dz.asQ, Dz.asL, Dz.rIsN, Dz.rIs, Dz.rIsNot, Dz.isNon_d, Dz.isNon_non, Dz.isNon_tup, Dz.isNon_lst, Dz.isNon_str, Dz.isNon_int, Dz.isNon_bl, Dz.isNon_ref, Dz.isNon_dic, Dz.isNon_ty, Dz.rAddU, Dz.rSub, Dz.rMod, Dz.rDiv, Dz.rPow, Dz.rLt, Dz.rLe, Dz.rGt, Dz.rGe, Dz.rEq, Dz.rNe, Dz.rEqv, Dz.rInt2, Dz.rMax2, Dz.rMin2, Dz.rI, Dz.rCmp, Dz.rIxU, Dz.rAbs, Dz.rToInt, Dz.rListU, Dz.rSlU, Dz.trk, Dz.rLenU, Dz.rMulU, Dz.rNeg, Dz.startD, Dz.wipeD, Dz.Tr.d, Dz.Sg.put_M, Dz.Sg.put_n, Dz.Sg.put_pv, Dz.Sg.del_M, Dz.Sg.del_n, Dz.Sg.del_pv, Dz.Mm.put_same, Dz.Mm.put_put, Dz.Sg.put_put, Dz.Mm.put_ne, Dz.Mm.del_ne, Dz.rIsi, Dz.tyN, Dz.tyNames, Dz.isiT, Dz.subT, Dz.tyOk, Dz.tyNames, Dz.pyOf, Dz.toPy, Dz.toPys, Dz.Sg.put_mk, Dz.Sg.del_mk, Dz.spend_M, Dz.spend_pv, Dz.spend_n, Dz.spend_spend, Dz.spend_put, Dz.spend_del, Dz.spNext_iff, Dz.asI_lst, Dz.asI_tup, Dz.dFJ, Dz.dJs, Dz.dFmt, Dz.Tr.isNil, List.map_cons, List.map_nil, List.length_cons, List.length_nil, List.length_map, List.length_set, List.replicate, Nat.reduceSub, Nat.reduceAdd, List.cons_append, List.nil_append, List.getElem?_cons_zero, List.getElem?_cons_succ, List.set_cons_zero, List.set_cons_succ, if_true, if_false, Bool.false_eq_true, id, Nat.sub_zero, Bool.not_true, Bool.not_false, true_and, and_true, ne_eq, not_false_eq_true, not_true_eq_false, reduceCtorEq, Option.map_some, Option.bind_some, String.reduceBEq, Bool.or_false, Bool.or_true, Bool.false_or, Bool.true_or, Bool.and_true, Bool.and_false, Bool.true_and, Bool.false_and, decide_true, decide_false, List.all_cons, List.all_nil, List.any_cons, List.any_nil, beq_self_eq_true]
      refine ⟨cmul_r (by omega) (by omega), hN _ _ ⟨some (.int k), ?_, rfl⟩⟩
      rw [show ((nmb l * nmb r * dsc (l.size + r.size) k : Nat) : Int) * ((l.size : Int) + r.size - k) = ((nmb l * nmb r * dsc (l.size + r.size) (k + 1) : Nat) : Int) by
        rw [dsc, ← Nat.mul_assoc, Int.natCast_mul (_ * _) (_ - _), show ((l.size : Int) + r.size - k) = ((l.size + r.size - k : Nat) : Int) by omega]]
end Pr
namespace Pr
open PySem PySem.Spec PyProof.Rows L2 Dz
theorem asL_ov {s s' : Sg} {j : Nat} {w : D} {ws : List D} (h : Ov s s' j) (e : asL s w = some ws) : asL s' w = some ws := by
  cases w with
  | ref a =>
    simp only [asL] at e ⊢
    cases q : s.M a with
    | none => rw [q] at e; cases e
    | some o => rw [q] at e; rw [h.m a o q]; exact e
  | lst ws => exact e
  | _ => cases e
theorem asI_L {s : Sg} {w : D} {ws : List D} (e : asL s w = some ws) : asI s w = some ws := by
  cases w with
  | ref a => exact e
  | lst ws => exact e
  | _ => cases e
abbrev so (o : List Nat) : D := .str (mkS o)
theorem cutS_to {ls : List Nat} {i : Int} (h : 0 ≤ i) : cutS (mkS ls) none (some i) = mkS (ls.take i.toNat) := by
  obtain ⟨k, rfl⟩ := Int.eq_ofNat_of_zero_le h
  unfold cutS
  rw [mkS_len, mkS_cps, show HT.sIx ls.length 0 none = 0 from rfl, List.drop_zero, Nat.sub_zero, HT.sIx_nat]
  simp only [Int.toNat_natCast]
  rw [Nat.min_def]
  split
  · rfl
  · rw [List.take_of_length_le (Nat.le_refl _), List.take_of_length_le (by omega)]; rfl
theorem cutS_from {ls : List Nat} {i : Int} (h : 0 ≤ i) : cutS (mkS ls) (some i) none = mkS (ls.drop i.toNat) := by
  obtain ⟨k, rfl⟩ := Int.eq_ofNat_of_zero_le h
  unfold cutS
  rw [mkS_len, mkS_cps, show HT.sIx ls.length ls.length none = ls.length from rfl, HT.sIx_nat]
  simp only [Int.toNat_natCast]
  rw [Nat.min_def]
  split
  · rw [List.take_of_length_le (by rw [List.length_drop]; omega)]; rfl
  · rw [List.drop_of_length_le (Nat.le_refl _), List.drop_of_length_le (by omega), List.take_nil]; rfl
theorem app1 {a : List Nat} {c : Nat} : mkS a ++ ⟨#[c]⟩ = mkS (a ++ [c]) := mkS_app a [c]
theorem len1 {c : Nat} : (⟨#[c]⟩ : Str).length = 1 := rfl
theorem prms_snoc (a : List Nat) (c : Nat) : prms (a ++ [c]) = (prms a).flatMap (puts c) := by
  unfold prms
  rw [List.foldl_append]
  rfl
theorem prms_len : ∀ ls : List Nat, (prms ls).length = fac ls.length := fun ls => by
  suffices h : ∀ (ls acc : List Nat) , (prms (acc ++ ls)).length * 1 = (prms (acc ++ ls)).length by
    clear h
    have key : ∀ (n : Nat) (ls : List Nat), ls.length = n → (prms ls).length = fac n := by
      intro n
      induction n with
      | zero => intro ls h; rw [List.length_eq_zero_iff.mp h]; rfl
      | succ n ih =>
        intro ls h
        have hne : ls ≠ [] := fun e => by rw [e] at h; cases h
        rw [← List.dropLast_concat_getLast hne, prms_snoc]
        have hl : ls.dropLast.length = n := by rw [List.length_dropLast]; omega
        rw [flat_len (n := n) fun o ho => by rw [(prms_mem (S := fun _ => True) (fun _ _ => trivial) ho).1, hl], ih _ hl, fac, Nat.mul_comm]
    exact key _ ls rfl
  intro ls acc
  omega
def spAll : SpD := fun ws s R _ => ∃ ls : List Nat, ws = [.str (mkS ls)] ∧ ls.length ≤ 5 ∧ ∀ os : List (List Nat), os.Perm (prms ls) → R (.lst (os.map so)) s
theorem e_law_all : ∀ ws s R, spAll ws s R X0 → ws.length = 1 ∧ t_law_all { nx := fun _ s' => Lw R .non s', rt := Lw R } (Dz.startD N_law_all ws) s := by
  rintro ws s R ⟨ls, rfl, hl, hR⟩
  refine ⟨rfl, ?_⟩
  have ch : (fun c => D.str ⟨#[c]⟩) = chr := rfl
  simp only [Dz.dSeq, Dz.dIf, Dz.dB, Dz.dOp, Dz.dUn, Dz.dVar, Dz.dC, Dz.dRet, Dz.dRetN, Dz.dNx, Dz.dBrk, Dz.dCnt, Dz.dAsg, Dz.dSet, Dz.dPar, Dz.dPar3, Dz.dgT, Dz.dgTt, Dz.dgCons, Dz.dgNil, Dz.dgN, Dz.dCall, Dz.dCons, Dz.dNil, Dz.dTup, Dz.dCB, Dz.dCN, Dz.dF, Dz.dM, Dz.dSz, Dz.dExpr, Dz.dNot, Dz.dAnd, Dz.dOr, Dz.dAndV, Dz.dOrV, Dz.dNotV, Dz.dIfE, Dz.dChain, Dz.dFrz, Dz.dIt, Dz.dRng1, Dz.dRng2, Dz.dSl, Dz.dNoPart, Dz.dPart, Dz.dCat, Dz.dRep, Dz.dLc, Dz.dFor, Dz.dAppend, Dz.dPop, Dz.dPopAt, Dz.rPopAtD, Dz.dSetIx, Dz.dYes, Dz.dRev, Dz.asI, Dz.asQ, Dz.asL, Dz.rIsN, Dz.rIs, Dz.rIsNot, Dz.isNon_d, Dz.isNon_non, Dz.isNon_tup, Dz.isNon_lst, Dz.isNon_str, Dz.isNon_int, Dz.isNon_bl, Dz.isNon_ref, Dz.isNon_dic, Dz.isNon_ty, Dz.rAddU, Dz.rSub, Dz.rMod, Dz.rDiv, Dz.rPow, Dz.rLt, Dz.rLe, Dz.rGt, Dz.rGe, Dz.rEq, Dz.rNe, Dz.rEqv, Dz.rInt2, Dz.rMax2, Dz.rMin2, Dz.rI, Dz.rCmp, Dz.rIxU, Dz.rAbs, Dz.rToInt, Dz.rListU, Dz.rSlU, Dz.trk, Dz.rLenU, Dz.rMulU, Dz.rNeg, Dz.startD, Dz.wipeD, Dz.Tr.d, Dz.Sg.put_M, Dz.Sg.put_n, Dz.Sg.put_pv, Dz.Sg.del_M, Dz.Sg.del_n, Dz.Sg.del_pv, Dz.Mm.put_same, Dz.Mm.put_put, Dz.Sg.put_put, Dz.Mm.put_ne, Dz.Mm.del_ne, Dz.rIsi, Dz.tyN, Dz.tyNames, Dz.isiT, Dz.subT, Dz.tyOk, Dz.tyNames, Dz.pyOf, Dz.toPy, Dz.toPys, Dz.Sg.put_mk, Dz.Sg.del_mk, Dz.spend_M, Dz.spend_pv, Dz.spend_n, Dz.spend_spend, Dz.spend_put, Dz.spend_del, Dz.spNext_iff, Dz.asI_lst, Dz.asI_tup, Dz.dFJ, Dz.dJs, Dz.dFmt, Dz.Tr.isNil, List.map_cons, List.map_nil, List.length_cons, List.length_nil, List.length_map, List.length_set, List.replicate, Nat.reduceSub, Nat.reduceAdd, List.cons_append, List.nil_append, List.getElem?_cons_zero, List.getElem?_cons_succ, List.set_cons_zero, List.set_cons_succ, if_true, if_false, Bool.false_eq_true, id, Nat.sub_zero, Bool.not_true, Bool.not_false, true_and, and_true, ne_eq, not_false_eq_true, not_true_eq_false, reduceCtorEq, Option.map_some, Option.bind_some, String.reduceBEq, Bool.or_false, Bool.or_true, Bool.false_or, Bool.true_or, Bool.and_true, Bool.and_false, Bool.true_and, Bool.false_and, decide_true, decide_false, List.all_cons, List.all_nil, List.any_cons, List.any_nil, beq_self_eq_true, t_law_all, mkS_cps, ch, sempty]
  refine ⟨by decide, ?_⟩
  refine for_inv (fun l env s' => ∃ (a b : List Nat) (w : D) (e2 e3 e4 : Option D), l = b.map chr ∧ a ++ b = ls ∧ env = [some (.str (mkS ls)), some w, e2, e3, e4, none] ∧ Ov s s' 0 ∧ asL s' w = some ((prms a).map so)) ?_ ?_ ⟨[], ls, _, _, _, _, rfl, rfl, rfl, Ov.refl s, rfl⟩
  · rintro env s' ⟨a, b, w, e2, e3, e4, hb, hab, rfl, ov, hw⟩
    cases b with
    | cons _ _ => cases hb
    | nil =>
      rw [List.append_nil] at hab
      subst hab
      simp only [Dz.dSeq, Dz.dIf, Dz.dB, Dz.dOp, Dz.dUn, Dz.dVar, Dz.dC, Dz.dRet, Dz.dRetN, Dz.dNx, Dz.dBrk, Dz.dCnt, Dz.dAsg, Dz.dSet, Dz.dPar, Dz.dPar3, Dz.dgT, Dz.dgTt, Dz.dgCons, Dz.dgNil, Dz.dgN, Dz.dCall, Dz.dCons, Dz.dNil, Dz.dTup, Dz.dCB, Dz.dCN, Dz.dF, Dz.dM, Dz.dSz, Dz.dExpr, Dz.dNot, Dz.dAnd, Dz.dOr, Dz.dAndV, Dz.dOrV, Dz.dNotV, Dz.dIfE, Dz.dChain, Dz.dFrz, Dz.dIt, Dz.dRng1, Dz.dRng2, Dz.dSl, Dz.dNoPart, Dz.dPart, Dz.dCat, Dz.dRep, Dz.dLc, Dz.dFor, Dz.dAppend, Dz.dPop, Dz.dPopAt, Dz.rPopAtD, Dz.dSetIx, Dz.dYes, Dz.dRev, Dz.asI, Dz.asQ, Dz.asL, Dz.rIsN, Dz.rIs, Dz.rIsNot, Dz.isNon_d, Dz.isNon_non, Dz.isNon_tup, Dz.isNon_lst, Dz.isNon_str, Dz.isNon_int, Dz.isNon_bl, Dz.isNon_ref, Dz.isNon_dic, Dz.isNon_ty, Dz.rAddU, Dz.rSub, Dz.rMod, Dz.rDiv, Dz.rPow, Dz.rLt, Dz.rLe, Dz.rGt, Dz.rGe, Dz.rEq, Dz.rNe, Dz.rEqv, Dz.rInt2, Dz.rMax2, Dz.rMin2, Dz.rI, Dz.rCmp, Dz.rIxU, Dz.rAbs, Dz.rToInt, Dz.rListU, Dz.rSlU, Dz.trk, Dz.rLenU, Dz.rMulU, Dz.rNeg, Dz.startD, Dz.wipeD, Dz.Tr.d, Dz.Sg.put_M, Dz.Sg.put_n, Dz.Sg.put_pv, Dz.Sg.del_M, Dz.Sg.del_n, Dz.Sg.del_pv, Dz.Mm.put_same, Dz.Mm.put_put, Dz.Sg.put_put, Dz.Mm.put_ne, Dz.Mm.del_ne, Dz.rIsi, Dz.tyN, Dz.tyNames, Dz.isiT, Dz.subT, Dz.tyOk, Dz.tyNames, Dz.pyOf, Dz.toPy, Dz.toPys, Dz.Sg.put_mk, Dz.Sg.del_mk, Dz.spend_M, Dz.spend_pv, Dz.spend_n, Dz.spend_spend, Dz.spend_put, Dz.spend_del, Dz.spNext_iff, Dz.asI_lst, Dz.asI_tup, Dz.dFJ, Dz.dJs, Dz.dFmt, Dz.Tr.isNil, List.map_cons, List.map_nil, List.length_cons, List.length_nil, List.length_map, List.length_set, List.replicate, Nat.reduceSub, Nat.reduceAdd, List.cons_append, List.nil_append, List.getElem?_cons_zero, List.getElem?_cons_succ, List.set_cons_zero, List.set_cons_succ, if_true, if_false, Bool.false_eq_true, id, Nat.sub_zero, Bool.not_true, Bool.not_false, true_and, and_true, ne_eq, not_false_eq_true, not_true_eq_false, reduceCtorEq, Option.map_some, Option.bind_some, String.reduceBEq, Bool.or_false, Bool.or_true, Bool.false_or, Bool.true_or, Bool.and_true, Bool.and_false, Bool.true_and, Bool.false_and, decide_true, decide_false, List.all_cons, List.all_nil, List.any_cons, List.any_nil, beq_self_eq_true, mkS_cps, ch]
      refine ⟨w, (prms a).map mkS, rfl, ?_, ?_, fun ys py _ => ?_⟩
      · rw [hw, List.map_map]; rfl
      · rw [List.length_map, prms_len]
        have := fac_le hl
        rw [show fac 5 = 120 from rfl] at this
        omega
      · obtain ⟨os, e1, e2⟩ : ∃ os : List (List Nat), ys.map D.str = os.map so ∧ os.Perm (prms a) := by
          refine ⟨ys.map fun y => y.cps.toList, ?_, ?_⟩
          · rw [List.map_map]
            apply List.map_congr_left
            intro y _
            show D.str y = D.str (mkS y.cps.toList)
            rw [← mkS_of]
          · have := py.map fun y : Str => y.cps.toList
            rw [List.map_map, show ((fun y : Str => y.cps.toList) ∘ mkS) = id from rfl, List.map_id] at this
            exact this
        rw [e1]
        exact ov.lw0 (hR os e2)
  · rintro x r env s' N ⟨a, b, w, e2, e3, e4, hb, hab, rfl, ov, hw⟩ hN
    cases b with
    | nil => cases hb
    | cons c b =>
    simp only [List.map_cons, List.cons.injEq] at hb
    obtain ⟨rfl, rfl⟩ := hb
    have hal : a.length + 1 ≤ 5 := by have := congrArg List.length hab; rw [List.length_append, List.length_cons] at this; omega
    simp only [Dz.dSeq, Dz.dIf, Dz.dB, Dz.dOp, Dz.dUn, Dz.dVar, Dz.dC, Dz.dRet, Dz.dRetN, Dz.dNx, Dz.dBrk, Dz.dCnt, Dz.dAsg, Dz.dSet, Dz.dPar, Dz.dPar3, Dz.dgT, Dz.dgTt, Dz.dgCons, Dz.dgNil, Dz.dgN, Dz.dCall, Dz.dCons, Dz.dNil, Dz.dTup, Dz.dCB, Dz.dCN, Dz.dF, Dz.dM, Dz.dSz, Dz.dExpr, Dz.dNot, Dz.dAnd, Dz.dOr, Dz.dAndV, Dz.dOrV, Dz.dNotV, Dz.dIfE, Dz.dChain, Dz.dFrz, Dz.dIt, Dz.dRng1, Dz.dRng2, Dz.dSl, Dz.dNoPart, Dz.dPart, Dz.dCat, Dz.dRep, Dz.dLc, Dz.dFor, Dz.dAppend, Dz.dPop, Dz.dPopAt, Dz.rPopAtD, Dz.dSetIx, Dz.dYes, Dz.dRev, Dz.rIsN, Dz.rIs, Dz.rIsNot, Dz.isNon_d, Dz.isNon_non, Dz.isNon_tup, Dz.isNon_lst, Dz.isNon_str, Dz.isNon_int, Dz.isNon_bl, Dz.isNon_ref, Dz.isNon_dic, Dz.isNon_ty, Dz.rAddU, Dz.rSub, Dz.rMod, Dz.rDiv, Dz.rPow, Dz.rLt, Dz.rLe, Dz.rGt, Dz.rGe, Dz.rEq, Dz.rNe, Dz.rEqv, Dz.rInt2, Dz.rMax2, Dz.rMin2, Dz.rI, Dz.rCmp, Dz.rIxU, Dz.rAbs, Dz.rToInt, Dz.rListU, Dz.rSlU, Dz.trk, Dz.rLenU, Dz.rMulU, Dz.rNeg, Dz.startD, Dz.wipeD, Dz.Tr.d, Dz.Sg.put_M, Dz.Sg.put_n, Dz.Sg.put_pv, Dz.Sg.del_M, Dz.Sg.del_n, Dz.Sg.del_pv, Dz.Mm.put_same, Dz.Mm.put_put, Dz.Sg.put_put, Dz.Mm.put_ne, Dz.Mm.del_ne, Dz.rIsi, Dz.tyN, Dz.tyNames, Dz.isiT, Dz.subT, Dz.tyOk, Dz.tyNames, Dz.pyOf, Dz.toPy, Dz.toPys, Dz.Sg.put_mk, Dz.Sg.del_mk, Dz.spend_M, Dz.spend_pv, Dz.spend_n, Dz.spend_spend, Dz.spend_put, Dz.spend_del, Dz.spNext_iff, Dz.asI_lst, Dz.asI_tup, Dz.dFJ, Dz.dJs, Dz.dFmt, Dz.Tr.isNil, List.map_cons, List.map_nil, List.length_cons, List.length_nil, List.length_map, List.length_set, List.replicate, Nat.reduceSub, Nat.reduceAdd, List.cons_append, List.nil_append, List.getElem?_cons_zero, List.getElem?_cons_succ, List.set_cons_zero, List.set_cons_succ, if_true, if_false, Bool.false_eq_true, id, Nat.sub_zero, Bool.not_true, Bool.not_false, true_and, and_true, ne_eq, not_false_eq_true, not_true_eq_false, reduceCtorEq, Option.map_some, Option.bind_some, String.reduceBEq, Bool.or_false, Bool.or_true, Bool.false_or, Bool.true_or, Bool.and_true, Bool.and_false, Bool.true_and, Bool.false_and, decide_true, decide_false, List.all_cons, List.all_nil, List.any_cons, List.any_nil, beq_self_eq_true, mkS_cps, ch]
    refine ⟨by simp only [asI, mkS_cps, ch], by decide, fun p hp => ?_⟩
    have hp1 : s.M p = none := ov.none hp
    have o0 : Ov s' (s'.put p (.lst [])) 0 := (Ov.refl s').put hp
    rw [asI_L (asL_ov o0 hw)]
    dsimp only
    have hpl : (prms a).length ≤ 24 := by
      rw [prms_len]
      have := fac_le (show a.length ≤ 4 by omega)
      rw [show fac 4 = 24 from rfl] at this
      exact this
    have hpo : ∀ o ∈ prms a, o.length = a.length := fun o ho => (prms_mem (S := fun _ => True) (fun _ _ => trivial) ho).1
    refine for_inv (fun l env s'' => ∃ (u v : List (List Nat)) (e4 : Option D), l = v.map so ∧ u ++ v = prms a ∧ env = [some (.str (mkS ls)), some w, some (chr c), some (.ref p), e4, none] ∧ Ov s' s'' 0 ∧ s''.M p = some (.lst ((u.flatMap (puts c)).map so))) ?_ ?_ ⟨[], prms a, e4, rfl, rfl, rfl, o0, by simp⟩
    · rintro env s'' ⟨u, v, e4, hv, huv, rfl, o2, mp⟩
      refine ⟨asI_L (asL_ov o2 hw), ?_⟩
      cases v with
      | cons _ _ => cases hv
      | nil =>
        rw [List.append_nil] at huv
        subst huv
        simp only [Dz.dSeq, Dz.dIf, Dz.dB, Dz.dOp, Dz.dUn, Dz.dVar, Dz.dC, Dz.dRet, Dz.dRetN, Dz.dNx, Dz.dBrk, Dz.dCnt, Dz.dAsg, Dz.dSet, Dz.dPar, Dz.dPar3, Dz.dgT, Dz.dgTt, Dz.dgCons, Dz.dgNil, Dz.dgN, Dz.dCall, Dz.dCons, Dz.dNil, Dz.dTup, Dz.dCB, Dz.dCN, Dz.dF, Dz.dM, Dz.dSz, Dz.dExpr, Dz.dNot, Dz.dAnd, Dz.dOr, Dz.dAndV, Dz.dOrV, Dz.dNotV, Dz.dIfE, Dz.dChain, Dz.dFrz, Dz.dIt, Dz.dRng1, Dz.dRng2, Dz.dSl, Dz.dNoPart, Dz.dPart, Dz.dCat, Dz.dRep, Dz.dLc, Dz.dFor, Dz.dAppend, Dz.dPop, Dz.dPopAt, Dz.rPopAtD, Dz.dSetIx, Dz.dYes, Dz.dRev, Dz.asI, Dz.asQ, Dz.asL, Dz.rIsN, Dz.rIs, Dz.rIsNot, Dz.isNon_d, Dz.isNon_non, Dz.isNon_tup, Dz.isNon_lst, Dz.isNon_str, Dz.isNon_int, Dz.isNon_bl, Dz.isNon_ref, Dz.isNon_dic, Dz.isNon_ty, Dz.rAddU, Dz.rSub, Dz.rMod, Dz.rDiv, Dz.rPow, Dz.rLt, Dz.rLe, Dz.rGt, Dz.rGe, Dz.rEq, Dz.rNe, Dz.rEqv, Dz.rInt2, Dz.rMax2, Dz.rMin2, Dz.rI, Dz.rCmp, Dz.rIxU, Dz.rAbs, Dz.rToInt, Dz.rListU, Dz.rSlU, Dz.trk, Dz.rLenU, Dz.rMulU, Dz.rNeg, Dz.startD, Dz.wipeD, Dz.Tr.d, Dz.Sg.put_M, Dz.Sg.put_n, Dz.Sg.put_pv, Dz.Sg.del_M, Dz.Sg.del_n, Dz.Sg.del_pv, Dz.Mm.put_same, Dz.Mm.put_put, Dz.Sg.put_put, Dz.Mm.put_ne, Dz.Mm.del_ne, Dz.rIsi, Dz.tyN, Dz.tyNames, Dz.isiT, Dz.subT, Dz.tyOk, Dz.tyNames, Dz.pyOf, Dz.toPy, Dz.toPys, Dz.Sg.put_mk, Dz.Sg.del_mk, Dz.spend_M, Dz.spend_pv, Dz.spend_n, Dz.spend_spend, Dz.spend_put, Dz.spend_del, Dz.spNext_iff, Dz.asI_lst, Dz.asI_tup, Dz.dFJ, Dz.dJs, Dz.dFmt, Dz.Tr.isNil, List.map_cons, List.map_nil, List.length_cons, List.length_nil, List.length_map, List.length_set, List.replicate, Nat.reduceSub, Nat.reduceAdd, List.cons_append, List.nil_append, List.getElem?_cons_zero, List.getElem?_cons_succ, List.set_cons_zero, List.set_cons_succ, if_true, if_false, Bool.false_eq_true, id, Nat.sub_zero, Bool.not_true, Bool.not_false, true_and, and_true, ne_eq, not_false_eq_true, not_true_eq_false, reduceCtorEq, Option.map_some, Option.bind_some, String.reduceBEq, Bool.or_false, Bool.or_true, Bool.false_or, Bool.true_or, Bool.and_true, Bool.and_false, Bool.true_and, Bool.false_and, decide_true, decide_false, List.all_cons, List.all_nil, List.any_cons, List.any_nil, beq_self_eq_true]
        refine hN _ _ ⟨a ++ [c], b, .ref p, _, _, _, rfl, by rw [List.append_assoc]; exact hab, rfl, by simpa using ov.trans o2, ?_⟩
        rw [prms_snoc]
        simp only [Dz.dSeq, Dz.dIf, Dz.dB, Dz.dOp, Dz.dUn, Dz.dVar, Dz.dC, Dz.dRet, Dz.dRetN, Dz.dNx, Dz.dBrk, Dz.dCnt, Dz.dAsg, Dz.dSet, Dz.dPar, Dz.dPar3, Dz.dgT, Dz.dgTt, Dz.dgCons, Dz.dgNil, Dz.dgN, Dz.dCall, Dz.dCons, Dz.dNil, Dz.dTup, Dz.dCB, Dz.dCN, Dz.dF, Dz.dM, Dz.dSz, Dz.dExpr, Dz.dNot, Dz.dAnd, Dz.dOr, Dz.dAndV, Dz.dOrV, Dz.dNotV, Dz.dIfE, Dz.dChain, Dz.dFrz, Dz.dIt, Dz.dRng1, Dz.dRng2, Dz.dSl, Dz.dNoPart, Dz.dPart, Dz.dCat, Dz.dRep, Dz.dLc, Dz.dFor, Dz.dAppend, Dz.dPop, Dz.dPopAt, Dz.rPopAtD, Dz.dSetIx, Dz.dYes, Dz.dRev, Dz.asI, Dz.asQ, Dz.asL, Dz.rIsN, Dz.rIs, Dz.rIsNot, Dz.isNon_d, Dz.isNon_non, Dz.isNon_tup, Dz.isNon_lst, Dz.isNon_str, Dz.isNon_int, Dz.isNon_bl, Dz.isNon_ref, Dz.isNon_dic, Dz.isNon_ty, Dz.rAddU, Dz.rSub, Dz.rMod, Dz.rDiv, Dz.rPow, Dz.rLt, Dz.rLe, Dz.rGt, Dz.rGe, Dz.rEq, Dz.rNe, Dz.rEqv, Dz.rInt2, Dz.rMax2, Dz.rMin2, Dz.rI, Dz.rCmp, Dz.rIxU, Dz.rAbs, Dz.rToInt, Dz.rListU, Dz.rSlU, Dz.trk, Dz.rLenU, Dz.rMulU, Dz.rNeg, Dz.startD, Dz.wipeD, Dz.Tr.d, Dz.Sg.put_M, Dz.Sg.put_n, Dz.Sg.put_pv, Dz.Sg.del_M, Dz.Sg.del_n, Dz.Sg.del_pv, Dz.Mm.put_same, Dz.Mm.put_put, Dz.Sg.put_put, Dz.Mm.put_ne, Dz.Mm.del_ne, Dz.rIsi, Dz.tyN, Dz.tyNames, Dz.isiT, Dz.subT, Dz.tyOk, Dz.tyNames, Dz.pyOf, Dz.toPy, Dz.toPys, Dz.Sg.put_mk, Dz.Sg.del_mk, Dz.spend_M, Dz.spend_pv, Dz.spend_n, Dz.spend_spend, Dz.spend_put, Dz.spend_del, Dz.spNext_iff, Dz.asI_lst, Dz.asI_tup, Dz.dFJ, Dz.dJs, Dz.dFmt, Dz.Tr.isNil, List.map_cons, List.map_nil, List.length_cons, List.length_nil, List.length_map, List.length_set, List.replicate, Nat.reduceSub, Nat.reduceAdd, List.cons_append, List.nil_append, List.getElem?_cons_zero, List.getElem?_cons_succ, List.set_cons_zero, List.set_cons_succ, if_true, if_false, Bool.false_eq_true, id, Nat.sub_zero, Bool.not_true, Bool.not_false, true_and, and_true, ne_eq, not_false_eq_true, not_true_eq_false, reduceCtorEq, Option.map_some, Option.bind_some, String.reduceBEq, Bool.or_false, Bool.or_true, Bool.false_or, Bool.true_or, Bool.and_true, Bool.and_false, Bool.true_and, Bool.false_and, decide_true, decide_false, List.all_cons, List.all_nil, List.any_cons, List.any_nil, beq_self_eq_true, mp]
    · rintro y q env s'' M ⟨u, v, e4, hv, huv, rfl, o2, mp⟩ hM
      refine ⟨asI_L (asL_ov o2 hw), ?_⟩
      cases v with
      | nil => cases hv
      | cons o v =>
      simp only [List.map_cons, List.cons.injEq] at hv
      obtain ⟨rfl, rfl⟩ := hv
      have ho := hpo o (by rw [← huv]; simp)
      simp only [Dz.dSeq, Dz.dIf, Dz.dB, Dz.dOp, Dz.dUn, Dz.dVar, Dz.dC, Dz.dRet, Dz.dRetN, Dz.dNx, Dz.dBrk, Dz.dCnt, Dz.dAsg, Dz.dSet, Dz.dPar, Dz.dPar3, Dz.dgT, Dz.dgTt, Dz.dgCons, Dz.dgNil, Dz.dgN, Dz.dCall, Dz.dCons, Dz.dNil, Dz.dTup, Dz.dCB, Dz.dCN, Dz.dF, Dz.dM, Dz.dSz, Dz.dExpr, Dz.dNot, Dz.dAnd, Dz.dOr, Dz.dAndV, Dz.dOrV, Dz.dNotV, Dz.dIfE, Dz.dChain, Dz.dFrz, Dz.dIt, Dz.dRng1, Dz.dRng2, Dz.dSl, Dz.dNoPart, Dz.dPart, Dz.dCat, Dz.dRep, Dz.dLc, Dz.dFor, Dz.dAppend, Dz.dPop, Dz.dPopAt, Dz.rPopAtD, Dz.dSetIx, Dz.dYes, Dz.dRev, Dz.asI, Dz.asQ, Dz.asL, Dz.rIsN, Dz.rIs, Dz.rIsNot, Dz.isNon_d, Dz.isNon_non, Dz.isNon_tup, Dz.isNon_lst, Dz.isNon_str, Dz.isNon_int, Dz.isNon_bl, Dz.isNon_ref, Dz.isNon_dic, Dz.isNon_ty, Dz.rAddU, Dz.rSub, Dz.rMod, Dz.rDiv, Dz.rPow, Dz.rLt, Dz.rLe, Dz.rGt, Dz.rGe, Dz.rEq, Dz.rNe, Dz.rEqv, Dz.rInt2, Dz.rMax2, Dz.rMin2, Dz.rI, Dz.rCmp, Dz.rIxU, Dz.rAbs, Dz.rToInt, Dz.rListU, Dz.rSlU, Dz.trk, Dz.rLenU, Dz.rMulU, Dz.rNeg, Dz.startD, Dz.wipeD, Dz.Tr.d, Dz.Sg.put_M, Dz.Sg.put_n, Dz.Sg.put_pv, Dz.Sg.del_M, Dz.Sg.del_n, Dz.Sg.del_pv, Dz.Mm.put_same, Dz.Mm.put_put, Dz.Sg.put_put, Dz.Mm.put_ne, Dz.Mm.del_ne, Dz.rIsi, Dz.tyN, Dz.tyNames, Dz.isiT, Dz.subT, Dz.tyOk, Dz.tyNames, Dz.pyOf, Dz.toPy, Dz.toPys, Dz.Sg.put_mk, Dz.Sg.del_mk, Dz.spend_M, Dz.spend_pv, Dz.spend_n, Dz.spend_spend, Dz.spend_put, Dz.spend_del, Dz.spNext_iff, Dz.asI_lst, Dz.asI_tup, Dz.dFJ, Dz.dJs, Dz.dFmt, Dz.Tr.isNil, List.map_cons, List.map_nil, List.length_cons, List.length_nil, List.length_map, List.length_set, List.replicate, Nat.reduceSub, Nat.reduceAdd, List.cons_append, List.nil_append, List.getElem?_cons_zero, List.getElem?_cons_succ, List.set_cons_zero, List.set_cons_succ, if_true, if_false, Bool.false_eq_true, id, Nat.sub_zero, Bool.not_true, Bool.not_false, true_and, and_true, ne_eq, not_false_eq_true, not_true_eq_false, reduceCtorEq, Option.map_some, Option.bind_some, String.reduceBEq, Bool.or_false, Bool.or_true, Bool.false_or, Bool.true_or, Bool.and_true, Bool.and_false, Bool.true_and, Bool.false_and, decide_true, decide_false, List.all_cons, List.all_nil, List.any_cons, List.any_nil, beq_self_eq_true, dExtend, mp, mkS_len]
      refine ⟨by omega, by omega, by omega, ?_⟩
      rw [show ((o.length : Int) + 1).toNat = o.length + 1 by omega]
      refine lc_rg (fun k => some (so (o.take k ++ c :: o.drop k))) rfl ?_ ?_ ?_
      · intro k hk K B hK
        have c1 : cutS (mkS o) none (some (k : Int)) = mkS (o.take k) := by rw [cutS_to (by omega), show (k : Int).toNat = k by omega]
        have c2 : cutS (mkS o) (some (k : Int)) none = mkS (o.drop k) := by rw [cutS_from (by omega), show (k : Int).toNat = k by omega]
        have l1 : (o.take k).length ≤ 5 := by rw [List.length_take]; omega
        have l2 : (o.drop k).length ≤ 5 := by rw [List.length_drop]; omega
        simp only [Dz.dSeq, Dz.dIf, Dz.dB, Dz.dOp, Dz.dUn, Dz.dVar, Dz.dC, Dz.dRet, Dz.dRetN, Dz.dNx, Dz.dBrk, Dz.dCnt, Dz.dAsg, Dz.dSet, Dz.dPar, Dz.dPar3, Dz.dgT, Dz.dgTt, Dz.dgCons, Dz.dgNil, Dz.dgN, Dz.dCall, Dz.dCons, Dz.dNil, Dz.dTup, Dz.dCB, Dz.dCN, Dz.dF, Dz.dM, Dz.dSz, Dz.dExpr, Dz.dNot, Dz.dAnd, Dz.dOr, Dz.dAndV, Dz.dOrV, Dz.dNotV, Dz.dIfE, Dz.dChain, Dz.dFrz, Dz.dIt, Dz.dRng1, Dz.dRng2, Dz.dSl, Dz.dNoPart, Dz.dPart, Dz.dCat, Dz.dRep, Dz.dLc, Dz.dFor, Dz.dAppend, Dz.dPop, Dz.dPopAt, Dz.rPopAtD, Dz.dSetIx, Dz.dYes, Dz.dRev, Dz.asI, Dz.asQ, Dz.asL, Dz.rIsN, Dz.rIs, Dz.rIsNot, Dz.isNon_d, Dz.isNon_non, Dz.isNon_tup, Dz.isNon_lst, Dz.isNon_str, Dz.isNon_int, Dz.isNon_bl, Dz.isNon_ref, Dz.isNon_dic, Dz.isNon_ty, Dz.rAddU, Dz.rSub, Dz.rMod, Dz.rDiv, Dz.rPow, Dz.rLt, Dz.rLe, Dz.rGt, Dz.rGe, Dz.rEq, Dz.rNe, Dz.rEqv, Dz.rInt2, Dz.rMax2, Dz.rMin2, Dz.rI, Dz.rCmp, Dz.rIxU, Dz.rAbs, Dz.rToInt, Dz.rListU, Dz.rSlU, Dz.trk, Dz.rLenU, Dz.rMulU, Dz.rNeg, Dz.startD, Dz.wipeD, Dz.Tr.d, Dz.Sg.put_M, Dz.Sg.put_n, Dz.Sg.put_pv, Dz.Sg.del_M, Dz.Sg.del_n, Dz.Sg.del_pv, Dz.Mm.put_same, Dz.Mm.put_put, Dz.Sg.put_put, Dz.Mm.put_ne, Dz.Mm.del_ne, Dz.rIsi, Dz.tyN, Dz.tyNames, Dz.isiT, Dz.subT, Dz.tyOk, Dz.tyNames, Dz.pyOf, Dz.toPy, Dz.toPys, Dz.Sg.put_mk, Dz.Sg.del_mk, Dz.spend_M, Dz.spend_pv, Dz.spend_n, Dz.spend_spend, Dz.spend_put, Dz.spend_del, Dz.spNext_iff, Dz.asI_lst, Dz.asI_tup, Dz.dFJ, Dz.dJs, Dz.dFmt, Dz.Tr.isNil, List.map_cons, List.map_nil, List.length_cons, List.length_nil, List.length_map, List.length_set, List.replicate, Nat.reduceSub, Nat.reduceAdd, List.cons_append, List.nil_append, List.getElem?_cons_zero, List.getElem?_cons_succ, List.set_cons_zero, List.set_cons_succ, if_true, if_false, Bool.false_eq_true, id, Nat.sub_zero, Bool.not_true, Bool.not_false, true_and, and_true, ne_eq, not_false_eq_true, not_true_eq_false, reduceCtorEq, Option.map_some, Option.bind_some, String.reduceBEq, Bool.or_false, Bool.or_true, Bool.false_or, Bool.true_or, Bool.and_true, Bool.and_false, Bool.true_and, Bool.false_and, decide_true, decide_false, List.all_cons, List.all_nil, List.any_cons, List.any_nil, beq_self_eq_true, c1, c2, chr, app1, len1, mkS_app, mkS_len, List.length_append]
        refine ⟨by omega, by omega, by omega, by omega, ?_⟩
        simpa using hK
      · omega
      · rw [show (fun k => some (so (o.take k ++ c :: o.drop k))) = some ∘ (fun k => so (o.take k ++ c :: o.drop k)) from rfl, List.filterMap_eq_map]
        have e : (List.range (o.length + 1)).map (fun k => so (o.take k ++ c :: o.drop k)) = (puts c o).map so := by
          unfold puts
          rw [List.map_map]
          rfl
        rw [e]
        intro z hz
        have nzp : p ≠ z := fun e => by subst e; rw [mp] at hz; cases hz
        have hz1 : s'.M z = none := o2.none hz
        have hul : (u.flatMap (puts c)).length ≤ 120 := by
          rw [flat_len (n := a.length) fun o' ho' => hpo o' (by rw [← huv]; exact List.mem_append_left _ ho')]
          have h1 : u.length ≤ 24 := by have := congrArg List.length huv; rw [List.length_append] at this; omega
          have h2 : a.length + 1 ≤ 5 := hal
          exact Nat.le_trans (Nat.mul_le_mul h1 h2) (by decide)
        unfold rExtendD
        simp only [Dz.dSeq, Dz.dIf, Dz.dB, Dz.dOp, Dz.dUn, Dz.dVar, Dz.dC, Dz.dRet, Dz.dRetN, Dz.dNx, Dz.dBrk, Dz.dCnt, Dz.dAsg, Dz.dSet, Dz.dPar, Dz.dPar3, Dz.dgT, Dz.dgTt, Dz.dgCons, Dz.dgNil, Dz.dgN, Dz.dCall, Dz.dCons, Dz.dNil, Dz.dTup, Dz.dCB, Dz.dCN, Dz.dF, Dz.dM, Dz.dSz, Dz.dExpr, Dz.dNot, Dz.dAnd, Dz.dOr, Dz.dAndV, Dz.dOrV, Dz.dNotV, Dz.dIfE, Dz.dChain, Dz.dFrz, Dz.dIt, Dz.dRng1, Dz.dRng2, Dz.dSl, Dz.dNoPart, Dz.dPart, Dz.dCat, Dz.dRep, Dz.dLc, Dz.dFor, Dz.dAppend, Dz.dPop, Dz.dPopAt, Dz.rPopAtD, Dz.dSetIx, Dz.dYes, Dz.dRev, Dz.asI, Dz.asQ, Dz.asL, Dz.rIsN, Dz.rIs, Dz.rIsNot, Dz.isNon_d, Dz.isNon_non, Dz.isNon_tup, Dz.isNon_lst, Dz.isNon_str, Dz.isNon_int, Dz.isNon_bl, Dz.isNon_ref, Dz.isNon_dic, Dz.isNon_ty, Dz.rAddU, Dz.rSub, Dz.rMod, Dz.rDiv, Dz.rPow, Dz.rLt, Dz.rLe, Dz.rGt, Dz.rGe, Dz.rEq, Dz.rNe, Dz.rEqv, Dz.rInt2, Dz.rMax2, Dz.rMin2, Dz.rI, Dz.rCmp, Dz.rIxU, Dz.rAbs, Dz.rToInt, Dz.rListU, Dz.rSlU, Dz.trk, Dz.rLenU, Dz.rMulU, Dz.rNeg, Dz.startD, Dz.wipeD, Dz.Tr.d, Dz.Sg.put_M, Dz.Sg.put_n, Dz.Sg.put_pv, Dz.Sg.del_M, Dz.Sg.del_n, Dz.Sg.del_pv, Dz.Mm.put_same, Dz.Mm.put_put, Dz.Sg.put_put, Dz.Mm.put_ne, Dz.Mm.del_ne, Dz.rIsi, Dz.tyN, Dz.tyNames, Dz.isiT, Dz.subT, Dz.tyOk, Dz.tyNames, Dz.pyOf, Dz.toPy, Dz.toPys, Dz.Sg.put_mk, Dz.Sg.del_mk, Dz.spend_M, Dz.spend_pv, Dz.spend_n, Dz.spend_spend, Dz.spend_put, Dz.spend_del, Dz.spNext_iff, Dz.asI_lst, Dz.asI_tup, Dz.dFJ, Dz.dJs, Dz.dFmt, Dz.Tr.isNil, List.map_cons, List.map_nil, List.length_cons, List.length_nil, List.length_map, List.length_set, List.replicate, Nat.reduceSub, Nat.reduceAdd, List.cons_append, List.nil_append, List.getElem?_cons_zero, List.getElem?_cons_succ, List.set_cons_zero, List.set_cons_succ, if_true, if_false, Bool.false_eq_true, id, Nat.sub_zero, Bool.not_true, Bool.not_false, true_and, and_true, ne_eq, not_false_eq_true, not_true_eq_false, reduceCtorEq, Option.map_some, Option.bind_some, String.reduceBEq, Bool.or_false, Bool.or_true, Bool.false_or, Bool.true_or, Bool.and_true, Bool.and_false, Bool.true_and, Bool.false_and, decide_true, decide_false, List.all_cons, List.all_nil, List.any_cons, List.any_nil, beq_self_eq_true, mp, nzp, Ne.symm nzp]
        rw [puts_len]
        refine ⟨by omega, hM _ _ ⟨u ++ [o], v, some (so o), rfl, by rw [List.append_assoc]; exact huv, rfl, (o2.put hz1).put hp, ?_⟩⟩
        rw [List.flatMap_append, List.map_append]
        simp [Mm.put]
end Pr
namespace Pr
open PySem PySem.Spec PyProof.Rows L2 Dz
def spLaw : SpD := fun ws s R _ => ∃ ns : List Int, ws = [.lst (ns.map D.int)] ∧ ns.length ≤ 1000 ∧ s = s0 ∧ ∀ s', R (.bl true) s'
theorem e_law : ∀ ws s R, spLaw ws s R X0 → ws.length = 1 ∧ t_law spBegin spOrder spBld spAll (spSame 70) spCnt (spNum 62) { nx := fun _ s' => Lw R .non s', rt := Lw R } (Dz.startD N_law ws) s := by
  rintro ws s R ⟨ns, rfl, hns, rfl, hR⟩
  refine ⟨rfl, ?_⟩
  have facts : ∀ ls : List Nat, ls.length ≤ 12 → (∀ c ∈ ls, Lt c) → (bld ls).size = ls.length ∧ (bld ls).depth ≤ 12 ∧ (bld ls).all (· < 1114112) := fun ls h hc => by
    have hz := fold_size ls .nil
    have hz' : (bld ls).size = ls.length := by rw [show (bld ls).size = _ from hz]; simp only [Tr.size]; omega
    have hd := Tr.depth_le (bld ls)
    exact ⟨hz', by omega, fold_all (fun c h => by have := hc c h; unfold Lt at this; omega) trivial⟩
  simp only [Dz.dSeq, Dz.dIf, Dz.dB, Dz.dOp, Dz.dUn, Dz.dVar, Dz.dC, Dz.dRet, Dz.dRetN, Dz.dNx, Dz.dBrk, Dz.dCnt, Dz.dAsg, Dz.dSet, Dz.dPar, Dz.dPar3, Dz.dgT, Dz.dgTt, Dz.dgCons, Dz.dgNil, Dz.dgN, Dz.dCall, Dz.dCons, Dz.dNil, Dz.dTup, Dz.dCB, Dz.dCN, Dz.dF, Dz.dM, Dz.dSz, Dz.dExpr, Dz.dNot, Dz.dAnd, Dz.dOr, Dz.dAndV, Dz.dOrV, Dz.dNotV, Dz.dIfE, Dz.dChain, Dz.dFrz, Dz.dIt, Dz.dRng1, Dz.dRng2, Dz.dSl, Dz.dNoPart, Dz.dPart, Dz.dCat, Dz.dRep, Dz.dLc, Dz.dFor, Dz.dAppend, Dz.dPop, Dz.dPopAt, Dz.rPopAtD, Dz.dSetIx, Dz.dYes, Dz.dRev, Dz.asI, Dz.asQ, Dz.asL, Dz.rIsN, Dz.rIs, Dz.rIsNot, Dz.isNon_d, Dz.isNon_non, Dz.isNon_tup, Dz.isNon_lst, Dz.isNon_str, Dz.isNon_int, Dz.isNon_bl, Dz.isNon_ref, Dz.isNon_dic, Dz.isNon_ty, Dz.rAddU, Dz.rSub, Dz.rMod, Dz.rDiv, Dz.rPow, Dz.rLt, Dz.rLe, Dz.rGt, Dz.rGe, Dz.rEq, Dz.rNe, Dz.rEqv, Dz.rInt2, Dz.rMax2, Dz.rMin2, Dz.rI, Dz.rCmp, Dz.rIxU, Dz.rAbs, Dz.rToInt, Dz.rListU, Dz.rSlU, Dz.trk, Dz.rLenU, Dz.rMulU, Dz.rNeg, Dz.startD, Dz.wipeD, Dz.Tr.d, Dz.Sg.put_M, Dz.Sg.put_n, Dz.Sg.put_pv, Dz.Sg.del_M, Dz.Sg.del_n, Dz.Sg.del_pv, Dz.Mm.put_same, Dz.Mm.put_put, Dz.Sg.put_put, Dz.Mm.put_ne, Dz.Mm.del_ne, Dz.rIsi, Dz.tyN, Dz.tyNames, Dz.isiT, Dz.subT, Dz.tyOk, Dz.tyNames, Dz.pyOf, Dz.toPy, Dz.toPys, Dz.Sg.put_mk, Dz.Sg.del_mk, Dz.spend_M, Dz.spend_pv, Dz.spend_n, Dz.spend_spend, Dz.spend_put, Dz.spend_del, Dz.spNext_iff, Dz.asI_lst, Dz.asI_tup, Dz.dFJ, Dz.dJs, Dz.dFmt, Dz.Tr.isNil, List.map_cons, List.map_nil, List.length_cons, List.length_nil, List.length_map, List.length_set, List.replicate, Nat.reduceSub, Nat.reduceAdd, List.cons_append, List.nil_append, List.getElem?_cons_zero, List.getElem?_cons_succ, List.set_cons_zero, List.set_cons_succ, if_true, if_false, Bool.false_eq_true, id, Nat.sub_zero, Bool.not_true, Bool.not_false, true_and, and_true, ne_eq, not_false_eq_true, not_true_eq_false, reduceCtorEq, Option.map_some, Option.bind_some, String.reduceBEq, Bool.or_false, Bool.or_true, Bool.false_or, Bool.true_or, Bool.and_true, Bool.and_false, Bool.true_and, Bool.false_and, decide_true, decide_false, List.all_cons, List.all_nil, List.any_cons, List.any_nil, beq_self_eq_true, t_law]
  refine ⟨rfl, ns, rfl, hns, fun p s1 hp hn => ?_⟩
  simp only [Dz.dSeq, Dz.dIf, Dz.dB, Dz.dOp, Dz.dUn, Dz.dVar, Dz.dC, Dz.dRet, Dz.dRetN, Dz.dNx, Dz.dBrk, Dz.dCnt, Dz.dAsg, Dz.dSet, Dz.dPar, Dz.dPar3, Dz.dgT, Dz.dgTt, Dz.dgCons, Dz.dgNil, Dz.dgN, Dz.dCall, Dz.dCons, Dz.dNil, Dz.dTup, Dz.dCB, Dz.dCN, Dz.dF, Dz.dM, Dz.dSz, Dz.dExpr, Dz.dNot, Dz.dAnd, Dz.dOr, Dz.dAndV, Dz.dOrV, Dz.dNotV, Dz.dIfE, Dz.dChain, Dz.dFrz, Dz.dIt, Dz.dRng1, Dz.dRng2, Dz.dSl, Dz.dNoPart, Dz.dPart, Dz.dCat, Dz.dRep, Dz.dLc, Dz.dFor, Dz.dAppend, Dz.dPop, Dz.dPopAt, Dz.rPopAtD, Dz.dSetIx, Dz.dYes, Dz.dRev, Dz.asI, Dz.asQ, Dz.asL, Dz.rIsN, Dz.rIs, Dz.rIsNot, Dz.isNon_d, Dz.isNon_non, Dz.isNon_tup, Dz.isNon_lst, Dz.isNon_str, Dz.isNon_int, Dz.isNon_bl, Dz.isNon_ref, Dz.isNon_dic, Dz.isNon_ty, Dz.rAddU, Dz.rSub, Dz.rMod, Dz.rDiv, Dz.rPow, Dz.rLt, Dz.rLe, Dz.rGt, Dz.rGe, Dz.rEq, Dz.rNe, Dz.rEqv, Dz.rInt2, Dz.rMax2, Dz.rMin2, Dz.rI, Dz.rCmp, Dz.rIxU, Dz.rAbs, Dz.rToInt, Dz.rListU, Dz.rSlU, Dz.trk, Dz.rLenU, Dz.rMulU, Dz.rNeg, Dz.startD, Dz.wipeD, Dz.Tr.d, Dz.Sg.put_M, Dz.Sg.put_n, Dz.Sg.put_pv, Dz.Sg.del_M, Dz.Sg.del_n, Dz.Sg.del_pv, Dz.Mm.put_same, Dz.Mm.put_put, Dz.Sg.put_put, Dz.Mm.put_ne, Dz.Mm.del_ne, Dz.rIsi, Dz.tyN, Dz.tyNames, Dz.isiT, Dz.subT, Dz.tyOk, Dz.tyNames, Dz.pyOf, Dz.toPy, Dz.toPys, Dz.Sg.put_mk, Dz.Sg.del_mk, Dz.spend_M, Dz.spend_pv, Dz.spend_n, Dz.spend_spend, Dz.spend_put, Dz.spend_del, Dz.spNext_iff, Dz.asI_lst, Dz.asI_tup, Dz.dFJ, Dz.dJs, Dz.dFmt, Dz.Tr.isNil, List.map_cons, List.map_nil, List.length_cons, List.length_nil, List.length_map, List.length_set, List.replicate, Nat.reduceSub, Nat.reduceAdd, List.cons_append, List.nil_append, List.getElem?_cons_zero, List.getElem?_cons_succ, List.set_cons_zero, List.set_cons_succ, if_true, if_false, Bool.false_eq_true, id, Nat.sub_zero, Bool.not_true, Bool.not_false, true_and, and_true, ne_eq, not_false_eq_true, not_true_eq_false, reduceCtorEq, Option.map_some, Option.bind_some, String.reduceBEq, Bool.or_false, Bool.or_true, Bool.false_or, Bool.true_or, Bool.and_true, Bool.and_false, Bool.true_and, Bool.false_and, decide_true, decide_false, List.all_cons, List.all_nil, List.any_cons, List.any_nil, beq_self_eq_true]
  refine ⟨by decide, by decide, ?_⟩
  refine for_rg (fun k env s' => ∃ (e2 e3 e4 e5 e6 : Option D), env = [some (.lst (ns.map D.int)), some (.ref p), e2, e3, e4, e5, e6, none] ∧ Db s' p ∧ (20 - k) * 300 ≤ s'.n) ⟨none, none, none, none, none, rfl, hp, by rw [hn]; decide⟩ ?_ ?_
  · rintro env s' ⟨e2, e3, e4, e5, e6, rfl, hp', hn'⟩
    simp only [Dz.dSeq, Dz.dIf, Dz.dB, Dz.dOp, Dz.dUn, Dz.dVar, Dz.dC, Dz.dRet, Dz.dRetN, Dz.dNx, Dz.dBrk, Dz.dCnt, Dz.dAsg, Dz.dSet, Dz.dPar, Dz.dPar3, Dz.dgT, Dz.dgTt, Dz.dgCons, Dz.dgNil, Dz.dgN, Dz.dCall, Dz.dCons, Dz.dNil, Dz.dTup, Dz.dCB, Dz.dCN, Dz.dF, Dz.dM, Dz.dSz, Dz.dExpr, Dz.dNot, Dz.dAnd, Dz.dOr, Dz.dAndV, Dz.dOrV, Dz.dNotV, Dz.dIfE, Dz.dChain, Dz.dFrz, Dz.dIt, Dz.dRng1, Dz.dRng2, Dz.dSl, Dz.dNoPart, Dz.dPart, Dz.dCat, Dz.dRep, Dz.dLc, Dz.dFor, Dz.dAppend, Dz.dPop, Dz.dPopAt, Dz.rPopAtD, Dz.dSetIx, Dz.dYes, Dz.dRev, Dz.asI, Dz.asQ, Dz.asL, Dz.rIsN, Dz.rIs, Dz.rIsNot, Dz.isNon_d, Dz.isNon_non, Dz.isNon_tup, Dz.isNon_lst, Dz.isNon_str, Dz.isNon_int, Dz.isNon_bl, Dz.isNon_ref, Dz.isNon_dic, Dz.isNon_ty, Dz.rAddU, Dz.rSub, Dz.rMod, Dz.rDiv, Dz.rPow, Dz.rLt, Dz.rLe, Dz.rGt, Dz.rGe, Dz.rEq, Dz.rNe, Dz.rEqv, Dz.rInt2, Dz.rMax2, Dz.rMin2, Dz.rI, Dz.rCmp, Dz.rIxU, Dz.rAbs, Dz.rToInt, Dz.rListU, Dz.rSlU, Dz.trk, Dz.rLenU, Dz.rMulU, Dz.rNeg, Dz.startD, Dz.wipeD, Dz.Tr.d, Dz.Sg.put_M, Dz.Sg.put_n, Dz.Sg.put_pv, Dz.Sg.del_M, Dz.Sg.del_n, Dz.Sg.del_pv, Dz.Mm.put_same, Dz.Mm.put_put, Dz.Sg.put_put, Dz.Mm.put_ne, Dz.Mm.del_ne, Dz.rIsi, Dz.tyN, Dz.tyNames, Dz.isiT, Dz.subT, Dz.tyOk, Dz.tyNames, Dz.pyOf, Dz.toPy, Dz.toPys, Dz.Sg.put_mk, Dz.Sg.del_mk, Dz.spend_M, Dz.spend_pv, Dz.spend_n, Dz.spend_spend, Dz.spend_put, Dz.spend_del, Dz.spNext_iff, Dz.asI_lst, Dz.asI_tup, Dz.dFJ, Dz.dJs, Dz.dFmt, Dz.Tr.isNil, List.map_cons, List.map_nil, List.length_cons, List.length_nil, List.length_map, List.length_set, List.replicate, Nat.reduceSub, Nat.reduceAdd, List.cons_append, List.nil_append, List.getElem?_cons_zero, List.getElem?_cons_succ, List.set_cons_zero, List.set_cons_succ, if_true, if_false, Bool.false_eq_true, id, Nat.sub_zero, Bool.not_true, Bool.not_false, true_and, and_true, ne_eq, not_false_eq_true, not_true_eq_false, reduceCtorEq, Option.map_some, Option.bind_some, String.reduceBEq, Bool.or_false, Bool.or_true, Bool.false_or, Bool.true_or, Bool.and_true, Bool.and_false, Bool.true_and, Bool.false_and, decide_true, decide_false, List.all_cons, List.all_nil, List.any_cons, List.any_nil, beq_self_eq_true]
    refine ⟨by decide, by decide, ?_⟩
    refine for_rg (fun k env s' => ∃ (e2 e3 e4 e5 e6 : Option D), env = [some (.lst (ns.map D.int)), some (.ref p), e2, e3, e4, e5, e6, none] ∧ Db s' p ∧ (8 - k) * 300 ≤ s'.n) ⟨e2, e3, e4, e5, e6, rfl, hp', by rw [show (Int.toNat 4) = 4 from rfl] at hn'; omega⟩ ?_ ?_
    · rintro env s' ⟨e2, e3, e4, e5, e6, rfl, hp', hn'⟩
      exact .of (hR s')
    · rintro k env s' N hk ⟨e2, e3, e4, e5, e6, rfl, hp', hn'⟩ hN
      rw [show (Int.toNat 8) = 8 from rfl] at hk
      simp only [Dz.dSeq, Dz.dIf, Dz.dB, Dz.dOp, Dz.dUn, Dz.dVar, Dz.dC, Dz.dRet, Dz.dRetN, Dz.dNx, Dz.dBrk, Dz.dCnt, Dz.dAsg, Dz.dSet, Dz.dPar, Dz.dPar3, Dz.dgT, Dz.dgTt, Dz.dgCons, Dz.dgNil, Dz.dgN, Dz.dCall, Dz.dCons, Dz.dNil, Dz.dTup, Dz.dCB, Dz.dCN, Dz.dF, Dz.dM, Dz.dSz, Dz.dExpr, Dz.dNot, Dz.dAnd, Dz.dOr, Dz.dAndV, Dz.dOrV, Dz.dNotV, Dz.dIfE, Dz.dChain, Dz.dFrz, Dz.dIt, Dz.dRng1, Dz.dRng2, Dz.dSl, Dz.dNoPart, Dz.dPart, Dz.dCat, Dz.dRep, Dz.dLc, Dz.dFor, Dz.dAppend, Dz.dPop, Dz.dPopAt, Dz.rPopAtD, Dz.dSetIx, Dz.dYes, Dz.dRev, Dz.asI, Dz.asQ, Dz.asL, Dz.rIsN, Dz.rIs, Dz.rIsNot, Dz.isNon_d, Dz.isNon_non, Dz.isNon_tup, Dz.isNon_lst, Dz.isNon_str, Dz.isNon_int, Dz.isNon_bl, Dz.isNon_ref, Dz.isNon_dic, Dz.isNon_ty, Dz.rAddU, Dz.rSub, Dz.rMod, Dz.rDiv, Dz.rPow, Dz.rLt, Dz.rLe, Dz.rGt, Dz.rGe, Dz.rEq, Dz.rNe, Dz.rInt2, Dz.rMax2, Dz.rMin2, Dz.rI, Dz.rCmp, Dz.rIxU, Dz.rAbs, Dz.rToInt, Dz.rListU, Dz.rSlU, Dz.trk, Dz.rLenU, Dz.rMulU, Dz.rNeg, Dz.startD, Dz.wipeD, Dz.Tr.d, Dz.Sg.put_M, Dz.Sg.put_n, Dz.Sg.put_pv, Dz.Sg.del_M, Dz.Sg.del_n, Dz.Sg.del_pv, Dz.Mm.put_same, Dz.Mm.put_put, Dz.Sg.put_put, Dz.Mm.put_ne, Dz.Mm.del_ne, Dz.rIsi, Dz.tyN, Dz.tyNames, Dz.isiT, Dz.subT, Dz.tyOk, Dz.tyNames, Dz.Sg.put_mk, Dz.Sg.del_mk, Dz.spend_M, Dz.spend_pv, Dz.spend_n, Dz.spend_spend, Dz.spend_put, Dz.spend_del, Dz.spNext_iff, Dz.asI_lst, Dz.asI_tup, Dz.dFJ, Dz.dJs, Dz.dFmt, Dz.Tr.isNil, List.map_cons, List.map_nil, List.length_cons, List.length_nil, List.length_map, List.length_set, List.replicate, Nat.reduceSub, Nat.reduceAdd, List.cons_append, List.nil_append, List.getElem?_cons_zero, List.getElem?_cons_succ, List.set_cons_zero, List.set_cons_succ, if_true, if_false, Bool.false_eq_true, id, Nat.sub_zero, Bool.not_true, Bool.not_false, true_and, and_true, ne_eq, not_false_eq_true, not_true_eq_false, reduceCtorEq, Option.map_some, Option.bind_some, String.reduceBEq, Bool.or_false, Bool.or_true, Bool.false_or, Bool.true_or, Bool.and_true, Bool.and_false, Bool.true_and, Bool.false_and, decide_true, decide_false, List.all_cons, List.all_nil, List.any_cons, List.any_nil, beq_self_eq_true, Dz.rEqv_int, Dz.rEqv_str, Dz.rEqv_bl]
      refine ⟨p, 1, 12, rfl, hp', by decide, by decide, by omega, fun ls h0 h1 hc hnd => ?_⟩
      obtain ⟨f1, f2, f3⟩ := facts ls h1 hc
      simp only [Dz.dSeq, Dz.dIf, Dz.dB, Dz.dOp, Dz.dUn, Dz.dVar, Dz.dC, Dz.dRet, Dz.dRetN, Dz.dNx, Dz.dBrk, Dz.dCnt, Dz.dAsg, Dz.dSet, Dz.dPar, Dz.dPar3, Dz.dgT, Dz.dgTt, Dz.dgCons, Dz.dgNil, Dz.dgN, Dz.dCall, Dz.dCons, Dz.dNil, Dz.dTup, Dz.dCB, Dz.dCN, Dz.dF, Dz.dM, Dz.dSz, Dz.dExpr, Dz.dNot, Dz.dAnd, Dz.dOr, Dz.dAndV, Dz.dOrV, Dz.dNotV, Dz.dIfE, Dz.dChain, Dz.dFrz, Dz.dIt, Dz.dRng1, Dz.dRng2, Dz.dSl, Dz.dNoPart, Dz.dPart, Dz.dCat, Dz.dRep, Dz.dLc, Dz.dFor, Dz.dAppend, Dz.dPop, Dz.dPopAt, Dz.rPopAtD, Dz.dSetIx, Dz.dYes, Dz.dRev, Dz.asI, Dz.asQ, Dz.asL, Dz.rIsN, Dz.rIs, Dz.rIsNot, Dz.isNon_d, Dz.isNon_non, Dz.isNon_tup, Dz.isNon_lst, Dz.isNon_str, Dz.isNon_int, Dz.isNon_bl, Dz.isNon_ref, Dz.isNon_dic, Dz.isNon_ty, Dz.rAddU, Dz.rSub, Dz.rMod, Dz.rDiv, Dz.rPow, Dz.rLt, Dz.rLe, Dz.rGt, Dz.rGe, Dz.rEq, Dz.rNe, Dz.rInt2, Dz.rMax2, Dz.rMin2, Dz.rI, Dz.rCmp, Dz.rIxU, Dz.rAbs, Dz.rToInt, Dz.rListU, Dz.rSlU, Dz.trk, Dz.rLenU, Dz.rMulU, Dz.rNeg, Dz.startD, Dz.wipeD, Dz.Tr.d, Dz.Sg.put_M, Dz.Sg.put_n, Dz.Sg.put_pv, Dz.Sg.del_M, Dz.Sg.del_n, Dz.Sg.del_pv, Dz.Mm.put_same, Dz.Mm.put_put, Dz.Sg.put_put, Dz.Mm.put_ne, Dz.Mm.del_ne, Dz.rIsi, Dz.tyN, Dz.tyNames, Dz.isiT, Dz.subT, Dz.tyOk, Dz.tyNames, Dz.Sg.put_mk, Dz.Sg.del_mk, Dz.spend_M, Dz.spend_pv, Dz.spend_n, Dz.spend_spend, Dz.spend_put, Dz.spend_del, Dz.spNext_iff, Dz.asI_lst, Dz.asI_tup, Dz.dFJ, Dz.dJs, Dz.dFmt, Dz.Tr.isNil, List.map_cons, List.map_nil, List.length_cons, List.length_nil, List.length_map, List.length_set, List.replicate, Nat.reduceSub, Nat.reduceAdd, List.cons_append, List.nil_append, List.getElem?_cons_zero, List.getElem?_cons_succ, List.set_cons_zero, List.set_cons_succ, if_true, if_false, Bool.false_eq_true, id, Nat.sub_zero, Bool.not_true, Bool.not_false, true_and, and_true, ne_eq, not_false_eq_true, not_true_eq_false, reduceCtorEq, Option.map_some, Option.bind_some, String.reduceBEq, Bool.or_false, Bool.or_true, Bool.false_or, Bool.true_or, Bool.and_true, Bool.and_false, Bool.true_and, Bool.false_and, decide_true, decide_false, List.all_cons, List.all_nil, List.any_cons, List.any_nil, beq_self_eq_true, Dz.rEqv_int, Dz.rEqv_str, Dz.rEqv_bl, spBld_iff]
      refine ⟨by omega, ?_⟩
      refine repr_tr (by omega) (by omega) (by omega) f3 ?_
      have j1 : L2.atI [D.int (bld ls).size, .int (nmb (bld ls))] 1 = some (.int (nmb (bld ls))) := rfl
      simp only [Dz.dSeq, Dz.dIf, Dz.dB, Dz.dOp, Dz.dUn, Dz.dVar, Dz.dC, Dz.dRet, Dz.dRetN, Dz.dNx, Dz.dBrk, Dz.dCnt, Dz.dAsg, Dz.dSet, Dz.dPar, Dz.dPar3, Dz.dgT, Dz.dgTt, Dz.dgCons, Dz.dgNil, Dz.dgN, Dz.dCall, Dz.dCons, Dz.dNil, Dz.dTup, Dz.dCB, Dz.dCN, Dz.dF, Dz.dM, Dz.dSz, Dz.dExpr, Dz.dNot, Dz.dAnd, Dz.dOr, Dz.dAndV, Dz.dOrV, Dz.dNotV, Dz.dIfE, Dz.dChain, Dz.dFrz, Dz.dIt, Dz.dRng1, Dz.dRng2, Dz.dSl, Dz.dNoPart, Dz.dPart, Dz.dCat, Dz.dRep, Dz.dLc, Dz.dFor, Dz.dAppend, Dz.dPop, Dz.dPopAt, Dz.rPopAtD, Dz.dSetIx, Dz.dYes, Dz.dRev, Dz.asI, Dz.asQ, Dz.asL, Dz.rIsN, Dz.rIs, Dz.rIsNot, Dz.isNon_d, Dz.isNon_non, Dz.isNon_tup, Dz.isNon_lst, Dz.isNon_str, Dz.isNon_int, Dz.isNon_bl, Dz.isNon_ref, Dz.isNon_dic, Dz.isNon_ty, Dz.rAddU, Dz.rSub, Dz.rMod, Dz.rDiv, Dz.rPow, Dz.rLt, Dz.rLe, Dz.rGt, Dz.rGe, Dz.rEq, Dz.rNe, Dz.rInt2, Dz.rMax2, Dz.rMin2, Dz.rI, Dz.rCmp, Dz.rIxU, Dz.rAbs, Dz.rToInt, Dz.rListU, Dz.rSlU, Dz.trk, Dz.rLenU, Dz.rMulU, Dz.rNeg, Dz.startD, Dz.wipeD, Dz.Tr.d, Dz.Sg.put_M, Dz.Sg.put_n, Dz.Sg.put_pv, Dz.Sg.del_M, Dz.Sg.del_n, Dz.Sg.del_pv, Dz.Mm.put_same, Dz.Mm.put_put, Dz.Sg.put_put, Dz.Mm.put_ne, Dz.Mm.del_ne, Dz.rIsi, Dz.tyN, Dz.tyNames, Dz.isiT, Dz.subT, Dz.tyOk, Dz.tyNames, Dz.Sg.put_mk, Dz.Sg.del_mk, Dz.spend_M, Dz.spend_pv, Dz.spend_n, Dz.spend_spend, Dz.spend_put, Dz.spend_del, Dz.spNext_iff, Dz.asI_lst, Dz.asI_tup, Dz.dFJ, Dz.dJs, Dz.dFmt, Dz.Tr.isNil, List.map_cons, List.map_nil, List.length_cons, List.length_nil, List.length_map, List.length_set, List.replicate, Nat.reduceSub, Nat.reduceAdd, List.cons_append, List.nil_append, List.getElem?_cons_zero, List.getElem?_cons_succ, List.set_cons_zero, List.set_cons_succ, if_true, if_false, Bool.false_eq_true, id, Nat.sub_zero, Bool.not_true, Bool.not_false, true_and, and_true, ne_eq, not_false_eq_true, not_true_eq_false, reduceCtorEq, Option.map_some, Option.bind_some, String.reduceBEq, Bool.or_false, Bool.or_true, Bool.false_or, Bool.true_or, Bool.and_true, Bool.and_false, Bool.true_and, Bool.false_and, decide_true, decide_false, List.all_cons, List.all_nil, List.any_cons, List.any_nil, beq_self_eq_true, Dz.rEqv_int, Dz.rEqv_str, Dz.rEqv_bl, spNum_iff, spCnt_iff, j1]
      refine ⟨by omega, by omega, by omega, by omega, by decide, by decide, ⟨.lst [.int (nmb (bld ls)), .int (nmb (bld ls))], 1, rfl, ⟨by decide, by simp, trivial, trivial, trivial⟩, by decide, by decide, ?_⟩⟩
      simp only [Dz.dSeq, Dz.dIf, Dz.dB, Dz.dOp, Dz.dUn, Dz.dVar, Dz.dC, Dz.dRet, Dz.dRetN, Dz.dNx, Dz.dBrk, Dz.dCnt, Dz.dAsg, Dz.dSet, Dz.dPar, Dz.dPar3, Dz.dgT, Dz.dgTt, Dz.dgCons, Dz.dgNil, Dz.dgN, Dz.dCall, Dz.dCons, Dz.dNil, Dz.dTup, Dz.dCB, Dz.dCN, Dz.dF, Dz.dM, Dz.dSz, Dz.dExpr, Dz.dNot, Dz.dAnd, Dz.dOr, Dz.dAndV, Dz.dOrV, Dz.dNotV, Dz.dIfE, Dz.dChain, Dz.dFrz, Dz.dIt, Dz.dRng1, Dz.dRng2, Dz.dSl, Dz.dNoPart, Dz.dPart, Dz.dCat, Dz.dRep, Dz.dLc, Dz.dFor, Dz.dAppend, Dz.dPop, Dz.dPopAt, Dz.rPopAtD, Dz.dSetIx, Dz.dYes, Dz.dRev, Dz.asI, Dz.asQ, Dz.asL, Dz.rIsN, Dz.rIs, Dz.rIsNot, Dz.isNon_d, Dz.isNon_non, Dz.isNon_tup, Dz.isNon_lst, Dz.isNon_str, Dz.isNon_int, Dz.isNon_bl, Dz.isNon_ref, Dz.isNon_dic, Dz.isNon_ty, Dz.rAddU, Dz.rSub, Dz.rMod, Dz.rDiv, Dz.rPow, Dz.rLt, Dz.rLe, Dz.rGt, Dz.rGe, Dz.rEq, Dz.rNe, Dz.rInt2, Dz.rMax2, Dz.rMin2, Dz.rI, Dz.rCmp, Dz.rIxU, Dz.rAbs, Dz.rToInt, Dz.rListU, Dz.rSlU, Dz.trk, Dz.rLenU, Dz.rMulU, Dz.rNeg, Dz.startD, Dz.wipeD, Dz.Tr.d, Dz.Sg.put_M, Dz.Sg.put_n, Dz.Sg.put_pv, Dz.Sg.del_M, Dz.Sg.del_n, Dz.Sg.del_pv, Dz.Mm.put_same, Dz.Mm.put_put, Dz.Sg.put_put, Dz.Mm.put_ne, Dz.Mm.del_ne, Dz.rIsi, Dz.tyN, Dz.tyNames, Dz.isiT, Dz.subT, Dz.tyOk, Dz.tyNames, Dz.Sg.put_mk, Dz.Sg.del_mk, Dz.spend_M, Dz.spend_pv, Dz.spend_n, Dz.spend_spend, Dz.spend_put, Dz.spend_del, Dz.spNext_iff, Dz.asI_lst, Dz.asI_tup, Dz.dFJ, Dz.dJs, Dz.dFmt, Dz.Tr.isNil, List.map_cons, List.map_nil, List.length_cons, List.length_nil, List.length_map, List.length_set, List.replicate, Nat.reduceSub, Nat.reduceAdd, List.cons_append, List.nil_append, List.getElem?_cons_zero, List.getElem?_cons_succ, List.set_cons_zero, List.set_cons_succ, if_true, if_false, Bool.false_eq_true, id, Nat.sub_zero, Bool.not_true, Bool.not_false, true_and, and_true, ne_eq, not_false_eq_true, not_true_eq_false, reduceCtorEq, Option.map_some, Option.bind_some, String.reduceBEq, Bool.or_false, Bool.or_true, Bool.false_or, Bool.true_or, Bool.and_true, Bool.and_false, Bool.true_and, Bool.false_and, decide_true, decide_false, List.all_cons, List.all_nil, List.any_cons, List.any_nil, beq_self_eq_true, Dz.rEqv_int, Dz.rEqv_str, Dz.rEqv_bl]
      refine repr_tr (by omega) (by omega) (by omega) f3 ?_
      simp only [Dz.dSeq, Dz.dIf, Dz.dB, Dz.dOp, Dz.dUn, Dz.dVar, Dz.dC, Dz.dRet, Dz.dRetN, Dz.dNx, Dz.dBrk, Dz.dCnt, Dz.dAsg, Dz.dSet, Dz.dPar, Dz.dPar3, Dz.dgT, Dz.dgTt, Dz.dgCons, Dz.dgNil, Dz.dgN, Dz.dCall, Dz.dCons, Dz.dNil, Dz.dTup, Dz.dCB, Dz.dCN, Dz.dF, Dz.dM, Dz.dSz, Dz.dExpr, Dz.dNot, Dz.dAnd, Dz.dOr, Dz.dAndV, Dz.dOrV, Dz.dNotV, Dz.dIfE, Dz.dChain, Dz.dFrz, Dz.dIt, Dz.dRng1, Dz.dRng2, Dz.dSl, Dz.dNoPart, Dz.dPart, Dz.dCat, Dz.dRep, Dz.dLc, Dz.dFor, Dz.dAppend, Dz.dPop, Dz.dPopAt, Dz.rPopAtD, Dz.dSetIx, Dz.dYes, Dz.dRev, Dz.asI, Dz.asQ, Dz.asL, Dz.rIsN, Dz.rIs, Dz.rIsNot, Dz.isNon_d, Dz.isNon_non, Dz.isNon_tup, Dz.isNon_lst, Dz.isNon_str, Dz.isNon_int, Dz.isNon_bl, Dz.isNon_ref, Dz.isNon_dic, Dz.isNon_ty, Dz.rAddU, Dz.rSub, Dz.rMod, Dz.rDiv, Dz.rPow, Dz.rLt, Dz.rLe, Dz.rGt, Dz.rGe, Dz.rEq, Dz.rNe, Dz.rInt2, Dz.rMax2, Dz.rMin2, Dz.rI, Dz.rCmp, Dz.rIxU, Dz.rAbs, Dz.rToInt, Dz.rListU, Dz.rSlU, Dz.trk, Dz.rLenU, Dz.rMulU, Dz.rNeg, Dz.startD, Dz.wipeD, Dz.Tr.d, Dz.Sg.put_M, Dz.Sg.put_n, Dz.Sg.put_pv, Dz.Sg.del_M, Dz.Sg.del_n, Dz.Sg.del_pv, Dz.Mm.put_same, Dz.Mm.put_put, Dz.Sg.put_put, Dz.Mm.put_ne, Dz.Mm.del_ne, Dz.rIsi, Dz.tyN, Dz.tyNames, Dz.isiT, Dz.subT, Dz.tyOk, Dz.tyNames, Dz.Sg.put_mk, Dz.Sg.del_mk, Dz.spend_M, Dz.spend_pv, Dz.spend_n, Dz.spend_spend, Dz.spend_put, Dz.spend_del, Dz.spNext_iff, Dz.asI_lst, Dz.asI_tup, Dz.dFJ, Dz.dJs, Dz.dFmt, Dz.Tr.isNil, List.map_cons, List.map_nil, List.length_cons, List.length_nil, List.length_map, List.length_set, List.replicate, Nat.reduceSub, Nat.reduceAdd, List.cons_append, List.nil_append, List.getElem?_cons_zero, List.getElem?_cons_succ, List.set_cons_zero, List.set_cons_succ, if_true, if_false, Bool.false_eq_true, id, Nat.sub_zero, Bool.not_true, Bool.not_false, true_and, and_true, ne_eq, not_false_eq_true, not_true_eq_false, reduceCtorEq, Option.map_some, Option.bind_some, String.reduceBEq, Bool.or_false, Bool.or_true, Bool.false_or, Bool.true_or, Bool.and_true, Bool.and_false, Bool.true_and, Bool.false_and, decide_true, decide_false, List.all_cons, List.all_nil, List.any_cons, List.any_nil, beq_self_eq_true, Dz.rEqv_int, Dz.rEqv_str, Dz.rEqv_bl]
      exact hN _ _ ⟨_, _, _, _, _, rfl, hp', by rw [spend_n]; omega⟩
  · rintro k env s' N hk ⟨e2, e3, e4, e5, e6, rfl, hp', hn'⟩ hN
    rw [show (Int.toNat 4) = 4 from rfl] at hk
    simp only [Dz.dSeq, Dz.dIf, Dz.dB, Dz.dOp, Dz.dUn, Dz.dVar, Dz.dC, Dz.dRet, Dz.dRetN, Dz.dNx, Dz.dBrk, Dz.dCnt, Dz.dAsg, Dz.dSet, Dz.dPar, Dz.dPar3, Dz.dgT, Dz.dgTt, Dz.dgCons, Dz.dgNil, Dz.dgN, Dz.dCall, Dz.dCons, Dz.dNil, Dz.dTup, Dz.dCB, Dz.dCN, Dz.dF, Dz.dM, Dz.dSz, Dz.dExpr, Dz.dNot, Dz.dAnd, Dz.dOr, Dz.dAndV, Dz.dOrV, Dz.dNotV, Dz.dIfE, Dz.dChain, Dz.dFrz, Dz.dIt, Dz.dRng1, Dz.dRng2, Dz.dSl, Dz.dNoPart, Dz.dPart, Dz.dCat, Dz.dRep, Dz.dLc, Dz.dFor, Dz.dAppend, Dz.dPop, Dz.dPopAt, Dz.rPopAtD, Dz.dSetIx, Dz.dYes, Dz.dRev, Dz.asI, Dz.asQ, Dz.asL, Dz.rIsN, Dz.rIs, Dz.rIsNot, Dz.isNon_d, Dz.isNon_non, Dz.isNon_tup, Dz.isNon_lst, Dz.isNon_str, Dz.isNon_int, Dz.isNon_bl, Dz.isNon_ref, Dz.isNon_dic, Dz.isNon_ty, Dz.rAddU, Dz.rSub, Dz.rMod, Dz.rDiv, Dz.rPow, Dz.rLt, Dz.rLe, Dz.rGt, Dz.rGe, Dz.rEq, Dz.rNe, Dz.rInt2, Dz.rMax2, Dz.rMin2, Dz.rI, Dz.rCmp, Dz.rIxU, Dz.rAbs, Dz.rToInt, Dz.rListU, Dz.rSlU, Dz.trk, Dz.rLenU, Dz.rMulU, Dz.rNeg, Dz.startD, Dz.wipeD, Dz.Tr.d, Dz.Sg.put_M, Dz.Sg.put_n, Dz.Sg.put_pv, Dz.Sg.del_M, Dz.Sg.del_n, Dz.Sg.del_pv, Dz.Mm.put_same, Dz.Mm.put_put, Dz.Sg.put_put, Dz.Mm.put_ne, Dz.Mm.del_ne, Dz.rIsi, Dz.tyN, Dz.tyNames, Dz.isiT, Dz.subT, Dz.tyOk, Dz.tyNames, Dz.Sg.put_mk, Dz.Sg.del_mk, Dz.spend_M, Dz.spend_pv, Dz.spend_n, Dz.spend_spend, Dz.spend_put, Dz.spend_del, Dz.spNext_iff, Dz.asI_lst, Dz.asI_tup, Dz.dFJ, Dz.dJs, Dz.dFmt, Dz.Tr.isNil, List.map_cons, List.map_nil, List.length_cons, List.length_nil, List.length_map, List.length_set, List.replicate, Nat.reduceSub, Nat.reduceAdd, List.cons_append, List.nil_append, List.getElem?_cons_zero, List.getElem?_cons_succ, List.set_cons_zero, List.set_cons_succ, if_true, if_false, Bool.false_eq_true, id, Nat.sub_zero, Bool.not_true, Bool.not_false, true_and, and_true, ne_eq, not_false_eq_true, not_true_eq_false, reduceCtorEq, Option.map_some, Option.bind_some, String.reduceBEq, Bool.or_false, Bool.or_true, Bool.false_or, Bool.true_or, Bool.and_true, Bool.and_false, Bool.true_and, Bool.false_and, decide_true, decide_false, List.all_cons, List.all_nil, List.any_cons, List.any_nil, beq_self_eq_true, Dz.rEqv_int, Dz.rEqv_str, Dz.rEqv_bl]
    refine ⟨p, 1, 5, rfl, hp', by decide, by decide, by omega, fun ls h0 h1 hc hnd => ?_⟩
    obtain ⟨f1, f2, f3⟩ := facts ls (by omega) hc
    simp only [Dz.dSeq, Dz.dIf, Dz.dB, Dz.dOp, Dz.dUn, Dz.dVar, Dz.dC, Dz.dRet, Dz.dRetN, Dz.dNx, Dz.dBrk, Dz.dCnt, Dz.dAsg, Dz.dSet, Dz.dPar, Dz.dPar3, Dz.dgT, Dz.dgTt, Dz.dgCons, Dz.dgNil, Dz.dgN, Dz.dCall, Dz.dCons, Dz.dNil, Dz.dTup, Dz.dCB, Dz.dCN, Dz.dF, Dz.dM, Dz.dSz, Dz.dExpr, Dz.dNot, Dz.dAnd, Dz.dOr, Dz.dAndV, Dz.dOrV, Dz.dNotV, Dz.dIfE, Dz.dChain, Dz.dFrz, Dz.dIt, Dz.dRng1, Dz.dRng2, Dz.dSl, Dz.dNoPart, Dz.dPart, Dz.dCat, Dz.dRep, Dz.dLc, Dz.dFor, Dz.dAppend, Dz.dPop, Dz.dPopAt, Dz.rPopAtD, Dz.dSetIx, Dz.dYes, Dz.dRev, Dz.asI, Dz.asQ, Dz.asL, Dz.rIsN, Dz.rIs, Dz.rIsNot, Dz.isNon_d, Dz.isNon_non, Dz.isNon_tup, Dz.isNon_lst, Dz.isNon_str, Dz.isNon_int, Dz.isNon_bl, Dz.isNon_ref, Dz.isNon_dic, Dz.isNon_ty, Dz.rAddU, Dz.rSub, Dz.rMod, Dz.rDiv, Dz.rPow, Dz.rLt, Dz.rLe, Dz.rGt, Dz.rGe, Dz.rEq, Dz.rNe, Dz.rInt2, Dz.rMax2, Dz.rMin2, Dz.rI, Dz.rCmp, Dz.rIxU, Dz.rAbs, Dz.rToInt, Dz.rListU, Dz.rSlU, Dz.trk, Dz.rLenU, Dz.rMulU, Dz.rNeg, Dz.startD, Dz.wipeD, Dz.Tr.d, Dz.Sg.put_M, Dz.Sg.put_n, Dz.Sg.put_pv, Dz.Sg.del_M, Dz.Sg.del_n, Dz.Sg.del_pv, Dz.Mm.put_same, Dz.Mm.put_put, Dz.Sg.put_put, Dz.Mm.put_ne, Dz.Mm.del_ne, Dz.rIsi, Dz.tyN, Dz.tyNames, Dz.isiT, Dz.subT, Dz.tyOk, Dz.tyNames, Dz.Sg.put_mk, Dz.Sg.del_mk, Dz.spend_M, Dz.spend_pv, Dz.spend_n, Dz.spend_spend, Dz.spend_put, Dz.spend_del, Dz.spNext_iff, Dz.asI_lst, Dz.asI_tup, Dz.dFJ, Dz.dJs, Dz.dFmt, Dz.Tr.isNil, List.map_cons, List.map_nil, List.length_cons, List.length_nil, List.length_map, List.length_set, List.replicate, Nat.reduceSub, Nat.reduceAdd, List.cons_append, List.nil_append, List.getElem?_cons_zero, List.getElem?_cons_succ, List.set_cons_zero, List.set_cons_succ, if_true, if_false, Bool.false_eq_true, id, Nat.sub_zero, Bool.not_true, Bool.not_false, true_and, and_true, ne_eq, not_false_eq_true, not_true_eq_false, reduceCtorEq, Option.map_some, Option.bind_some, String.reduceBEq, Bool.or_false, Bool.or_true, Bool.false_or, Bool.true_or, Bool.and_true, Bool.and_false, Bool.true_and, Bool.false_and, decide_true, decide_false, List.all_cons, List.all_nil, List.any_cons, List.any_nil, beq_self_eq_true, Dz.rEqv_int, Dz.rEqv_str, Dz.rEqv_bl, spBld_iff]
    refine ⟨by omega, ls, rfl, by omega, fun os po => ?_⟩
    simp only [Dz.dSeq, Dz.dIf, Dz.dB, Dz.dOp, Dz.dUn, Dz.dVar, Dz.dC, Dz.dRet, Dz.dRetN, Dz.dNx, Dz.dBrk, Dz.dCnt, Dz.dAsg, Dz.dSet, Dz.dPar, Dz.dPar3, Dz.dgT, Dz.dgTt, Dz.dgCons, Dz.dgNil, Dz.dgN, Dz.dCall, Dz.dCons, Dz.dNil, Dz.dTup, Dz.dCB, Dz.dCN, Dz.dF, Dz.dM, Dz.dSz, Dz.dExpr, Dz.dNot, Dz.dAnd, Dz.dOr, Dz.dAndV, Dz.dOrV, Dz.dNotV, Dz.dIfE, Dz.dChain, Dz.dFrz, Dz.dIt, Dz.dRng1, Dz.dRng2, Dz.dSl, Dz.dNoPart, Dz.dPart, Dz.dCat, Dz.dRep, Dz.dLc, Dz.dFor, Dz.dAppend, Dz.dPop, Dz.dPopAt, Dz.rPopAtD, Dz.dSetIx, Dz.dYes, Dz.dRev, Dz.asI, Dz.asQ, Dz.asL, Dz.rIsN, Dz.rIs, Dz.rIsNot, Dz.isNon_d, Dz.isNon_non, Dz.isNon_tup, Dz.isNon_lst, Dz.isNon_str, Dz.isNon_int, Dz.isNon_bl, Dz.isNon_ref, Dz.isNon_dic, Dz.isNon_ty, Dz.rAddU, Dz.rSub, Dz.rMod, Dz.rDiv, Dz.rPow, Dz.rLt, Dz.rLe, Dz.rGt, Dz.rGe, Dz.rEq, Dz.rNe, Dz.rInt2, Dz.rMax2, Dz.rMin2, Dz.rI, Dz.rCmp, Dz.rIxU, Dz.rAbs, Dz.rToInt, Dz.rListU, Dz.rSlU, Dz.trk, Dz.rLenU, Dz.rMulU, Dz.rNeg, Dz.startD, Dz.wipeD, Dz.Tr.d, Dz.Sg.put_M, Dz.Sg.put_n, Dz.Sg.put_pv, Dz.Sg.del_M, Dz.Sg.del_n, Dz.Sg.del_pv, Dz.Mm.put_same, Dz.Mm.put_put, Dz.Sg.put_put, Dz.Mm.put_ne, Dz.Mm.del_ne, Dz.rIsi, Dz.tyN, Dz.tyNames, Dz.isiT, Dz.subT, Dz.tyOk, Dz.tyNames, Dz.Sg.put_mk, Dz.Sg.del_mk, Dz.spend_M, Dz.spend_pv, Dz.spend_n, Dz.spend_spend, Dz.spend_put, Dz.spend_del, Dz.spNext_iff, Dz.asI_lst, Dz.asI_tup, Dz.dFJ, Dz.dJs, Dz.dFmt, Dz.Tr.isNil, List.map_cons, List.map_nil, List.length_cons, List.length_nil, List.length_map, List.length_set, List.replicate, Nat.reduceSub, Nat.reduceAdd, List.cons_append, List.nil_append, List.getElem?_cons_zero, List.getElem?_cons_succ, List.set_cons_zero, List.set_cons_succ, if_true, if_false, Bool.false_eq_true, id, Nat.sub_zero, Bool.not_true, Bool.not_false, true_and, and_true, ne_eq, not_false_eq_true, not_true_eq_false, reduceCtorEq, Option.map_some, Option.bind_some, String.reduceBEq, Bool.or_false, Bool.or_true, Bool.false_or, Bool.true_or, Bool.and_true, Bool.and_false, Bool.true_and, Bool.false_and, decide_true, decide_false, List.all_cons, List.all_nil, List.any_cons, List.any_nil, beq_self_eq_true, Dz.rEqv_int, Dz.rEqv_str, Dz.rEqv_bl]
    have hol : os.length ≤ 120 := by
      rw [po.length_eq, prms_len]
      have := fac_le h1
      rw [show fac 5 = 120 from rfl] at this
      exact this
    refine lc_of (l := os) so (fun o => if bld o = bld ls then some (so o) else none) rfl ?_ (by rw [List.length_nil]; omega) ?_
    · intro o ho K B hK
      have hm := prms_mem (S := Lt) hc (po.mem_iff.mp ho)
      obtain ⟨g1, g2, g3⟩ := facts o (by omega) hm.2
      have eT : ∀ (g : Bool → Bool) (s2 : Sg) (Q : KD), rEqv g (bld o).d (bld ls).d s2 Q ↔ Q (.bl (g (decide (bld o = bld ls)))) s2 := fun g s2 Q => rEqv_tr g3 f3 (by omega) (by omega)
      simp only [Dz.dSeq, Dz.dIf, Dz.dB, Dz.dOp, Dz.dUn, Dz.dVar, Dz.dC, Dz.dRet, Dz.dRetN, Dz.dNx, Dz.dBrk, Dz.dCnt, Dz.dAsg, Dz.dSet, Dz.dPar, Dz.dPar3, Dz.dgT, Dz.dgTt, Dz.dgCons, Dz.dgNil, Dz.dgN, Dz.dCall, Dz.dCons, Dz.dNil, Dz.dTup, Dz.dCB, Dz.dCN, Dz.dF, Dz.dM, Dz.dSz, Dz.dExpr, Dz.dNot, Dz.dAnd, Dz.dOr, Dz.dAndV, Dz.dOrV, Dz.dNotV, Dz.dIfE, Dz.dChain, Dz.dFrz, Dz.dIt, Dz.dRng1, Dz.dRng2, Dz.dSl, Dz.dNoPart, Dz.dPart, Dz.dCat, Dz.dRep, Dz.dLc, Dz.dFor, Dz.dAppend, Dz.dPop, Dz.dPopAt, Dz.rPopAtD, Dz.dSetIx, Dz.dYes, Dz.dRev, Dz.asI, Dz.asQ, Dz.asL, Dz.rIsN, Dz.rIs, Dz.rIsNot, Dz.isNon_d, Dz.isNon_non, Dz.isNon_tup, Dz.isNon_lst, Dz.isNon_str, Dz.isNon_int, Dz.isNon_bl, Dz.isNon_ref, Dz.isNon_dic, Dz.isNon_ty, Dz.rAddU, Dz.rSub, Dz.rMod, Dz.rDiv, Dz.rPow, Dz.rLt, Dz.rLe, Dz.rGt, Dz.rGe, Dz.rEq, Dz.rNe, Dz.rInt2, Dz.rMax2, Dz.rMin2, Dz.rI, Dz.rCmp, Dz.rIxU, Dz.rAbs, Dz.rToInt, Dz.rListU, Dz.rSlU, Dz.trk, Dz.rLenU, Dz.rMulU, Dz.rNeg, Dz.startD, Dz.wipeD, Dz.Tr.d, Dz.Sg.put_M, Dz.Sg.put_n, Dz.Sg.put_pv, Dz.Sg.del_M, Dz.Sg.del_n, Dz.Sg.del_pv, Dz.Mm.put_same, Dz.Mm.put_put, Dz.Sg.put_put, Dz.Mm.put_ne, Dz.Mm.del_ne, Dz.rIsi, Dz.tyN, Dz.tyNames, Dz.isiT, Dz.subT, Dz.tyOk, Dz.tyNames, Dz.Sg.put_mk, Dz.Sg.del_mk, Dz.spend_M, Dz.spend_pv, Dz.spend_n, Dz.spend_spend, Dz.spend_put, Dz.spend_del, Dz.spNext_iff, Dz.asI_lst, Dz.asI_tup, Dz.dFJ, Dz.dJs, Dz.dFmt, Dz.Tr.isNil, List.map_cons, List.map_nil, List.length_cons, List.length_nil, List.length_map, List.length_set, List.replicate, Nat.reduceSub, Nat.reduceAdd, List.cons_append, List.nil_append, List.getElem?_cons_zero, List.getElem?_cons_succ, List.set_cons_zero, List.set_cons_succ, if_true, if_false, Bool.false_eq_true, id, Nat.sub_zero, Bool.not_true, Bool.not_false, true_and, and_true, ne_eq, not_false_eq_true, not_true_eq_false, reduceCtorEq, Option.map_some, Option.bind_some, String.reduceBEq, Bool.or_false, Bool.or_true, Bool.false_or, Bool.true_or, Bool.and_true, Bool.and_false, Bool.true_and, Bool.false_and, decide_true, decide_false, List.all_cons, List.all_nil, List.any_cons, List.any_nil, beq_self_eq_true, Dz.rEqv_int, Dz.rEqv_str, Dz.rEqv_bl, spBld_iff, eT]
      refine ⟨by omega, ?_⟩
      by_cases h : bld o = bld ls
      · simp only [h, if_true, decide_true] at hK ⊢
        exact hK
      · simp only [h, if_false, decide_false, if_neg Bool.false_ne_true] at hK ⊢
        exact hK
    · have ec : (os.filterMap fun o => if bld o = bld ls then some (so o) else none).length = nmb (bld ls) := by
        rw [← cnt_nmb (by omega) h1 hnd, cnt]
        rw [← (po.filter fun o => decide (bld o = bld ls)).length_eq]
        clear po hol
        induction os with
        | nil => rfl
        | cons o os ih =>
          by_cases h : bld o = bld ls
          · simp [h, ih]
          · simp [h, ih]
      have j1 : L2.atI [D.int (bld ls).size, .int (nmb (bld ls))] 1 = some (.int (nmb (bld ls))) := rfl
      rw [List.nil_append]
      simp only [Dz.dSeq, Dz.dIf, Dz.dB, Dz.dOp, Dz.dUn, Dz.dVar, Dz.dC, Dz.dRet, Dz.dRetN, Dz.dNx, Dz.dBrk, Dz.dCnt, Dz.dAsg, Dz.dSet, Dz.dPar, Dz.dPar3, Dz.dgT, Dz.dgTt, Dz.dgCons, Dz.dgNil, Dz.dgN, Dz.dCall, Dz.dCons, Dz.dNil, Dz.dTup, Dz.dCB, Dz.dCN, Dz.dF, Dz.dM, Dz.dSz, Dz.dExpr, Dz.dNot, Dz.dAnd, Dz.dOr, Dz.dAndV, Dz.dOrV, Dz.dNotV, Dz.dIfE, Dz.dChain, Dz.dFrz, Dz.dIt, Dz.dRng1, Dz.dRng2, Dz.dSl, Dz.dNoPart, Dz.dPart, Dz.dCat, Dz.dRep, Dz.dLc, Dz.dFor, Dz.dAppend, Dz.dPop, Dz.dPopAt, Dz.rPopAtD, Dz.dSetIx, Dz.dYes, Dz.dRev, Dz.asI, Dz.asQ, Dz.asL, Dz.rIsN, Dz.rIs, Dz.rIsNot, Dz.isNon_d, Dz.isNon_non, Dz.isNon_tup, Dz.isNon_lst, Dz.isNon_str, Dz.isNon_int, Dz.isNon_bl, Dz.isNon_ref, Dz.isNon_dic, Dz.isNon_ty, Dz.rAddU, Dz.rSub, Dz.rMod, Dz.rDiv, Dz.rPow, Dz.rLt, Dz.rLe, Dz.rGt, Dz.rGe, Dz.rEq, Dz.rNe, Dz.rInt2, Dz.rMax2, Dz.rMin2, Dz.rI, Dz.rCmp, Dz.rIxU, Dz.rAbs, Dz.rToInt, Dz.rListU, Dz.rSlU, Dz.trk, Dz.rLenU, Dz.rMulU, Dz.rNeg, Dz.startD, Dz.wipeD, Dz.Tr.d, Dz.Sg.put_M, Dz.Sg.put_n, Dz.Sg.put_pv, Dz.Sg.del_M, Dz.Sg.del_n, Dz.Sg.del_pv, Dz.Mm.put_same, Dz.Mm.put_put, Dz.Sg.put_put, Dz.Mm.put_ne, Dz.Mm.del_ne, Dz.rIsi, Dz.tyN, Dz.tyNames, Dz.isiT, Dz.subT, Dz.tyOk, Dz.tyNames, Dz.Sg.put_mk, Dz.Sg.del_mk, Dz.spend_M, Dz.spend_pv, Dz.spend_n, Dz.spend_spend, Dz.spend_put, Dz.spend_del, Dz.spNext_iff, Dz.asI_lst, Dz.asI_tup, Dz.dFJ, Dz.dJs, Dz.dFmt, Dz.Tr.isNil, List.map_cons, List.map_nil, List.length_cons, List.length_nil, List.length_map, List.length_set, List.replicate, Nat.reduceSub, Nat.reduceAdd, List.cons_append, List.nil_append, List.getElem?_cons_zero, List.getElem?_cons_succ, List.set_cons_zero, List.set_cons_succ, if_true, if_false, Bool.false_eq_true, id, Nat.sub_zero, Bool.not_true, Bool.not_false, true_and, and_true, ne_eq, not_false_eq_true, not_true_eq_false, reduceCtorEq, Option.map_some, Option.bind_some, String.reduceBEq, Bool.or_false, Bool.or_true, Bool.false_or, Bool.true_or, Bool.and_true, Bool.and_false, Bool.true_and, Bool.false_and, decide_true, decide_false, List.all_cons, List.all_nil, List.any_cons, List.any_nil, beq_self_eq_true, Dz.rEqv_int, Dz.rEqv_str, Dz.rEqv_bl, spNum_iff, spCnt_iff, j1, ec]
      refine ⟨by omega, by omega, by omega, by decide, by decide, ⟨.lst [.int (nmb (bld ls)), .int (nmb (bld ls))], 1, rfl, ⟨by decide, by simp, trivial, trivial, trivial⟩, by decide, by decide, ?_⟩⟩
      simp only [Dz.dSeq, Dz.dIf, Dz.dB, Dz.dOp, Dz.dUn, Dz.dVar, Dz.dC, Dz.dRet, Dz.dRetN, Dz.dNx, Dz.dBrk, Dz.dCnt, Dz.dAsg, Dz.dSet, Dz.dPar, Dz.dPar3, Dz.dgT, Dz.dgTt, Dz.dgCons, Dz.dgNil, Dz.dgN, Dz.dCall, Dz.dCons, Dz.dNil, Dz.dTup, Dz.dCB, Dz.dCN, Dz.dF, Dz.dM, Dz.dSz, Dz.dExpr, Dz.dNot, Dz.dAnd, Dz.dOr, Dz.dAndV, Dz.dOrV, Dz.dNotV, Dz.dIfE, Dz.dChain, Dz.dFrz, Dz.dIt, Dz.dRng1, Dz.dRng2, Dz.dSl, Dz.dNoPart, Dz.dPart, Dz.dCat, Dz.dRep, Dz.dLc, Dz.dFor, Dz.dAppend, Dz.dPop, Dz.dPopAt, Dz.rPopAtD, Dz.dSetIx, Dz.dYes, Dz.dRev, Dz.asI, Dz.asQ, Dz.asL, Dz.rIsN, Dz.rIs, Dz.rIsNot, Dz.isNon_d, Dz.isNon_non, Dz.isNon_tup, Dz.isNon_lst, Dz.isNon_str, Dz.isNon_int, Dz.isNon_bl, Dz.isNon_ref, Dz.isNon_dic, Dz.isNon_ty, Dz.rAddU, Dz.rSub, Dz.rMod, Dz.rDiv, Dz.rPow, Dz.rLt, Dz.rLe, Dz.rGt, Dz.rGe, Dz.rEq, Dz.rNe, Dz.rInt2, Dz.rMax2, Dz.rMin2, Dz.rI, Dz.rCmp, Dz.rIxU, Dz.rAbs, Dz.rToInt, Dz.rListU, Dz.rSlU, Dz.trk, Dz.rLenU, Dz.rMulU, Dz.rNeg, Dz.startD, Dz.wipeD, Dz.Tr.d, Dz.Sg.put_M, Dz.Sg.put_n, Dz.Sg.put_pv, Dz.Sg.del_M, Dz.Sg.del_n, Dz.Sg.del_pv, Dz.Mm.put_same, Dz.Mm.put_put, Dz.Sg.put_put, Dz.Mm.put_ne, Dz.Mm.del_ne, Dz.rIsi, Dz.tyN, Dz.tyNames, Dz.isiT, Dz.subT, Dz.tyOk, Dz.tyNames, Dz.Sg.put_mk, Dz.Sg.del_mk, Dz.spend_M, Dz.spend_pv, Dz.spend_n, Dz.spend_spend, Dz.spend_put, Dz.spend_del, Dz.spNext_iff, Dz.asI_lst, Dz.asI_tup, Dz.dFJ, Dz.dJs, Dz.dFmt, Dz.Tr.isNil, List.map_cons, List.map_nil, List.length_cons, List.length_nil, List.length_map, List.length_set, List.replicate, Nat.reduceSub, Nat.reduceAdd, List.cons_append, List.nil_append, List.getElem?_cons_zero, List.getElem?_cons_succ, List.set_cons_zero, List.set_cons_succ, if_true, if_false, Bool.false_eq_true, id, Nat.sub_zero, Bool.not_true, Bool.not_false, true_and, and_true, ne_eq, not_false_eq_true, not_true_eq_false, reduceCtorEq, Option.map_some, Option.bind_some, String.reduceBEq, Bool.or_false, Bool.or_true, Bool.false_or, Bool.true_or, Bool.and_true, Bool.and_false, Bool.true_and, Bool.false_and, decide_true, decide_false, List.all_cons, List.all_nil, List.any_cons, List.any_nil, beq_self_eq_true, Dz.rEqv_int, Dz.rEqv_str, Dz.rEqv_bl]
      exact hN _ _ ⟨_, _, _, _, _, rfl, hp', by rw [spend_n]; omega⟩
end Pr
namespace Pr
open PySem PySem.Spec PyProof.Rows L2 Dz
def dd0 : He.DefD := ⟨("size_of", none), "size_of", "size_of", defArgs (top 1), defBody (top 1), defScope (top 1), [], []⟩
def dd1 : He.DefD := ⟨("factorial", none), "factorial", "factorial", defArgs (top 3), defBody (top 3), defScope (top 3), [], []⟩
def dd2 : He.DefD := ⟨("product_of_sizes", none), "product_of_sizes", "product_of_sizes", defArgs (top 4), defBody (top 4), defScope (top 4), [], []⟩
def dd3 : He.DefD := ⟨("count_mixed", none), "count_mixed", "count_mixed", defArgs (top 5), defBody (top 5), defScope (top 5), [], []⟩
def dd4 : He.DefD := ⟨("count_orders", none), "count_orders", "count_orders", defArgs (top 6), defBody (top 6), defScope (top 6), [], []⟩
def dd5 : He.DefD := ⟨("_law_begin", none), "_law_begin", "_law_begin", defArgs (top 8), defBody (top 8), defScope (top 8), [], []⟩
def dd6 : He.DefD := ⟨("_law_next", none), "_law_next", "_law_next", defArgs (top 9), defBody (top 9), defScope (top 9), [], []⟩
def dd7 : He.DefD := ⟨("_law_same", none), "_law_same", "_law_same", defArgs (top 10), defBody (top 10), defScope (top 10), [], []⟩
def dd8 : He.DefD := ⟨("_law_mixed", none), "_law_mixed", "_law_mixed", defArgs (top 11), defBody (top 11), defScope (top 11), [], []⟩
def dd9 : He.DefD := ⟨("_law_free", none), "_law_free", "_law_free", defArgs (top 12), defBody (top 12), defScope (top 12), [], []⟩
def dd10 : He.DefD := ⟨("_law_order", none), "_law_order", "_law_order", defArgs (top 13), defBody (top 13), defScope (top 13), [], []⟩
def dd11 : He.DefD := ⟨("_law_put", none), "_law_put", "_law_put", defArgs (top 14), defBody (top 14), defScope (top 14), [], []⟩
def dd12 : He.DefD := ⟨("_law_grown", none), "_law_grown", "_law_grown", defArgs (top 15), defBody (top 15), defScope (top 15), [], []⟩
def dd13 : He.DefD := ⟨("_law_all", none), "_law_all", "_law_all", defArgs (top 17), defBody (top 17), defScope (top 17), [], []⟩
def dd14 : He.DefD := ⟨("_law_number", none), "_law_number", "_law_number", defArgs (top 18), defBody (top 18), defScope (top 18), [], []⟩
def dd15 : He.DefD := ⟨("law", none), "law", "law", defArgs (top 19), defBody (top 19), defScope (top 19), [], []⟩
def fn : List He.DefD := [dd0, dd1, dd2, dd3, dd4, dd5, dd6, dd7, dd8, dd9, dd10, dd11, dd12, dd13, dd14, dd15]
def fa : List He.Fa := [.glo "size_of", .glo "factorial", .glo "product_of_sizes", .glo "count_mixed", .glo "count_orders", .glo "_law_begin", .glo "_law_next", .glo "_law_same", .glo "_law_mixed", .glo "_law_free", .glo "_law_order", .glo "_law_put", .glo "_law_grown", .glo "_law_all", .glo "_law_number", .glo "law", .free "abs", .free "bool", .free "dict", .free "int", .free "isinstance", .free "len", .free "list", .free "range", .free "repr", .free "sorted", .free "str", .free "sum", .free "tuple"]
abbrev RR : PySem.W.OpenRow := PySem.W.OpenLaw.row PySem.Challenge.rw_treewalks_k32_orders_counted
abbrev hk : PySem.W.Hook := He.hookD 4 fa fn
def ob (s : PySem.W.SharedT) : He.AlD := He.obsDG 4 fa fn (HandSHeadRun.getT s)
theorem ob_eq (s : PySem.W.SharedT) : ob s = hk.obs s.abs := He.obsDG_eq (HandSHeadRun.getT_eq s)
def loose : List Str := ["size_of", "factorial", "product_of_sizes", "count_mixed", "count_orders", "_law_begin", "_law_next", "_law_same", "_law_mixed", "_law_free", "_law_order", "_law_put", "_law_grown", "_law_ahead", "_law_all", "_law_number"]
theorem run (w : World) : HandSHeadRun.RunEq RR (PySem.W.view RR.prog [19]) hk ob 3000 loose w := by
  intro os
  kernel_rfl
theorem chain {P : Program} {w : World} {K : PySem.W.Frag} {h : Heap} {mg : Str → Option Value} (X : K.In h) (G : h.Ns mainGlobals mg) (c : He.SaysD fa fn K) (base : Heap) {fL : Addr} {fdL : FuncData} (FL : FunD K "law" "law" (defArgs (top 19)) (defBody (top 19)) (defScope (top 19)) [] [] fL fdL) : FnG P w K mg base CX0 130 fL fdL ["_law_script"] (liftSp K spLaw) := by
  have B : Bi mg := ⟨He.free_ok X G (c.fact 16 (f := .free "abs") rfl), He.free_ok X G (c.fact 17 (f := .free "bool") rfl), He.free_ok X G (c.fact 18 (f := .free "dict") rfl), He.free_ok X G (c.fact 19 (f := .free "int") rfl), He.free_ok X G (c.fact 20 (f := .free "isinstance") rfl), He.free_ok X G (c.fact 21 (f := .free "len") rfl), He.free_ok X G (c.fact 22 (f := .free "list") rfl), He.free_ok X G (c.fact 23 (f := .free "range") rfl), He.free_ok X G (c.fact 24 (f := .free "repr") rfl), He.free_ok X G (c.fact 25 (f := .free "sorted") rfl), He.free_ok X G (c.fact 26 (f := .free "str") rfl), He.free_ok X G (c.fact 27 (f := .free "sum") rfl), He.free_ok X G (c.fact 28 (f := .free "tuple") rfl)⟩
  obtain ⟨fd0, F0⟩ := c.def_ 0 (d := dd0) rfl
  have m0 := He.glo_ok X G (c.fact 0 (f := .glo "size_of") rfl)
  have q0 : Binds K fd0 ["tree"] [] := F0.bindsN fun _ _ _ _ _ _ us hl => match us, hl with | [_], _ => rfl
  obtain ⟨fd1, F1⟩ := c.def_ 1 (d := dd1) rfl
  have m1 := He.glo_ok X G (c.fact 1 (f := .glo "factorial") rfl)
  have q1 : Binds K fd1 ["number"] [] := F1.bindsN fun _ _ _ _ _ _ us hl => match us, hl with | [_], _ => rfl
  obtain ⟨fd2, F2⟩ := c.def_ 2 (d := dd2) rfl
  have m2 := He.glo_ok X G (c.fact 2 (f := .glo "product_of_sizes") rfl)
  have q2 : Binds K fd2 ["tree"] [] := F2.bindsN fun _ _ _ _ _ _ us hl => match us, hl with | [_], _ => rfl
  obtain ⟨fd3, F3⟩ := c.def_ 3 (d := dd3) rfl
  have m3 := He.glo_ok X G (c.fact 3 (f := .glo "count_mixed") rfl)
  have q3 : Binds K fd3 ["parts"] [] := F3.bindsN fun _ _ _ _ _ _ us hl => match us, hl with | [_], _ => rfl
  obtain ⟨fd4, F4⟩ := c.def_ 4 (d := dd4) rfl
  have m4 := He.glo_ok X G (c.fact 4 (f := .glo "count_orders") rfl)
  have q4 : Binds K fd4 ["tree"] [] := F4.bindsN fun _ _ _ _ _ _ us hl => match us, hl with | [_], _ => rfl
  obtain ⟨fd5, F5⟩ := c.def_ 5 (d := dd5) rfl
  have m5 := He.glo_ok X G (c.fact 5 (f := .glo "_law_begin") rfl)
  have q5 : Binds K fd5 ["_law_script"] [] := F5.bindsN fun _ _ _ _ _ _ us hl => match us, hl with | [_], _ => rfl
  obtain ⟨fd6, F6⟩ := c.def_ 6 (d := dd6) rfl
  have m6 := He.glo_ok X G (c.fact 6 (f := .glo "_law_next") rfl)
  have q6 : Binds K fd6 ["_law_deck", "_law_many"] [] := F6.bindsN fun _ _ _ _ _ _ us hl => match us, hl with | [_, _], _ => rfl
  obtain ⟨fd7, F7⟩ := c.def_ 7 (d := dd7) rfl
  have m7 := He.glo_ok X G (c.fact 7 (f := .glo "_law_same") rfl)
  have q7 : Binds K fd7 ["_law_found", "_law_due"] [] := F7.bindsN fun _ _ _ _ _ _ us hl => match us, hl with | [_, _], _ => rfl
  obtain ⟨fd8, F8⟩ := c.def_ 8 (d := dd8) rfl
  have m8 := He.glo_ok X G (c.fact 8 (f := .glo "_law_mixed") rfl)
  have q8 : Binds K fd8 ["_law_deck", "_law_items"] [] := F8.bindsN fun _ _ _ _ _ _ us hl => match us, hl with | [_, _], _ => rfl
  obtain ⟨fd9, F9⟩ := c.def_ 9 (d := dd9) rfl
  have m9 := He.glo_ok X G (c.fact 9 (f := .glo "_law_free") rfl)
  have q9 : Binds K fd9 ["_law_deck", "_law_letters"] [] := F9.bindsN fun _ _ _ _ _ _ us hl => match us, hl with | [_, _], _ => rfl
  obtain ⟨fd10, F10⟩ := c.def_ 10 (d := dd10) rfl
  have m10 := He.glo_ok X G (c.fact 10 (f := .glo "_law_order") rfl)
  have q10 : Binds K fd10 ["_law_deck", "_law_low", "_law_high"] [] := F10.bindsN fun _ _ _ _ _ _ us hl => match us, hl with | [_, _, _], _ => rfl
  obtain ⟨fd11, F11⟩ := c.def_ 11 (d := dd11) rfl
  have m11 := He.glo_ok X G (c.fact 11 (f := .glo "_law_put") rfl)
  have q11 : Binds K fd11 ["_law_tree", "_law_letter"] [] := F11.bindsN fun _ _ _ _ _ _ us hl => match us, hl with | [_, _], _ => rfl
  obtain ⟨fd12, F12⟩ := c.def_ 12 (d := dd12) rfl
  have m12 := He.glo_ok X G (c.fact 12 (f := .glo "_law_grown") rfl)
  have q12 : Binds K fd12 ["_law_order_here"] [] := F12.bindsN fun _ _ _ _ _ _ us hl => match us, hl with | [_], _ => rfl
  obtain ⟨fd13, F13⟩ := c.def_ 13 (d := dd13) rfl
  have m13 := He.glo_ok X G (c.fact 13 (f := .glo "_law_all") rfl)
  have q13 : Binds K fd13 ["_law_letters"] [] := F13.bindsN fun _ _ _ _ _ _ us hl => match us, hl with | [_], _ => rfl
  obtain ⟨fd14, F14⟩ := c.def_ 14 (d := dd14) rfl
  have m14 := He.glo_ok X G (c.fact 14 (f := .glo "_law_number") rfl)
  have q14 : Binds K fd14 ["_law_tree"] [] := F14.bindsN fun _ _ _ _ _ _ us hl => match us, hl with | [_], _ => rfl
  have A_size_of : ∀ n, Df P w K mg base CX0 (0 + n) "size_of" ["tree"] (spT (fun t => .int t.size) n) := fun n => by
    induction n with
    | zero => exact df_false F0 m0 q0 (by rintro _ _ _ _ ⟨_, _, h, _⟩; exact absurd h (Nat.not_lt_zero _))
    | succ n ih => exact df_of (k := 0 + n) F0 sc_size_of m0 q0 (fun _ _ _ _ _ _ hr hg => b_size_of B hr hg ih (by omega)) (sem_plain (e_size_of n)) (fun _ _ _ _ h => h)
  have D_size_of := A_size_of 62
  have D_factorial : Df P w K mg base CX0 (0 + 1) "factorial" ["number"] spFac := df_of (k := 0) F1 sc_factorial m1 q1 (fun _ _ _ _ _ _ hr hg => b_factorial B hr hg ) (sem_plain (e_factorial)) (fun _ _ _ _ h => h)
  have A_product_of_sizes : ∀ n, Df P w K mg base CX0 (62 + n) "product_of_sizes" ["tree"] (spTz (fun t => .int (prd t)) n) := fun n => by
    induction n with
    | zero => exact df_false F2 m2 q2 (by rintro _ _ _ _ ⟨_, _, h, _⟩; exact absurd h (Nat.not_lt_zero _))
    | succ n ih => exact df_of (k := 62 + n) F2 sc_product_of_sizes m2 q2 (fun _ _ _ _ _ _ hr hg => b_product_of_sizes B hr hg D_size_of (by omega) ih (by omega)) (sem_plain (e_product_of_sizes n)) (fun _ _ _ _ h => h)
  have D_product_of_sizes := A_product_of_sizes 62
  have D_count_mixed : Df P w K mg base CX0 (124 + 1) "count_mixed" ["parts"] spMix := df_of (k := 124) F3 sc_count_mixed m3 q3 (fun _ _ _ _ _ _ hr hg => b_count_mixed B hr hg D_factorial (by omega) D_size_of (by omega) D_product_of_sizes (by omega)) (sem_plain (e_count_mixed)) (fun _ _ _ _ h => h)
  have D_count_orders : Df P w K mg base CX0 (125 + 1) "count_orders" ["tree"] spCnt := df_of (k := 125) F4 sc_count_orders m4 q4 (fun _ _ _ _ _ _ hr hg => b_count_orders B hr hg D_count_mixed (by omega)) (sem_plain (e_count_orders)) (fun _ _ _ _ h => h)
  have D_law_begin : Df P w K mg base CX0 (0 + 1) "_law_begin" ["_law_script"] spBegin := df_of (k := 0) F5 sc_law_begin m5 q5 (fun _ _ _ _ _ _ hr hg => b_law_begin B hr hg ) (sem_plain (e_law_begin)) (fun _ _ _ _ h => h)
  have D_law_next : Df P w K mg base CX0 (0 + 1) "_law_next" ["_law_deck", "_law_many"] spNextB := df_of (k := 0) F6 sc_law_next m6 q6 (fun _ _ _ _ _ _ hr hg => b_law_next B hr hg ) (e_law_next) (fun _ _ _ _ h => h)
  have A_law_same : ∀ n, Df P w K mg base CX0 (0 + n) "_law_same" ["_law_found", "_law_due"] (spSame n) := fun n => by
    induction n with
    | zero => exact df_false F7 m7 q7 (by rintro _ _ _ _ ⟨_, _, _, _, h, _⟩; exact absurd h (Nat.not_lt_zero _))
    | succ n ih => exact df_of (k := 0 + n) F7 sc_law_same m7 q7 (fun _ _ _ _ _ _ hr hg => b_law_same B hr hg ih (by omega)) (sem_plain (e_law_same n)) (fun _ _ _ _ h => h)
  have D_law_same := A_law_same 70
  have D_law_mixed : Df P w K mg base CX0 (1 + 1) "_law_mixed" ["_law_deck", "_law_items"] spMixed := df_of (k := 1) F8 sc_law_mixed m8 q8 (fun _ _ _ _ _ _ hr hg => b_law_mixed B hr hg D_law_next (by omega)) (sem_plain (e_law_mixed)) (fun _ _ _ _ h => h)
  have A_law_free : ∀ n, Df P w K mg base CX0 (1 + n) "_law_free" ["_law_deck", "_law_letters"] (spFree n) := fun n => by
    induction n with
    | zero => exact df_false F9 m9 q9 (by rintro _ _ _ _ ⟨_, _, _, _, h, _⟩; exact absurd h (Nat.not_lt_zero _))
    | succ n ih => exact df_of (k := 1 + n) F9 sc_law_free m9 q9 (fun _ _ _ _ _ _ hr hg => b_law_free B hr hg D_law_next (by omega) ih (by omega)) (sem_plain (e_law_free n)) (fun _ _ _ _ h => h)
  have D_law_free := A_law_free 30
  have D_law_order : Df P w K mg base CX0 (31 + 1) "_law_order" ["_law_deck", "_law_low", "_law_high"] spOrder := df_of (k := 31) F10 sc_law_order m10 q10 (fun _ _ _ _ _ _ hr hg => b_law_order B hr hg D_law_next (by omega) D_law_mixed (by omega) D_law_free (by omega)) (sem_plain (e_law_order)) (fun _ _ _ _ h => h)
  have A_law_put : ∀ n, Df P w K mg base CX0 (0 + n) "_law_put" ["_law_tree", "_law_letter"] (spIns n) := fun n => by
    induction n with
    | zero => exact df_false F11 m11 q11 (by rintro _ _ _ _ ⟨_, _, _, h, _⟩; exact absurd h (Nat.not_lt_zero _))
    | succ n ih => exact df_of (k := 0 + n) F11 sc_law_put m11 q11 (fun _ _ _ _ _ _ hr hg => b_law_put B hr hg ih (by omega)) (sem_plain (e_law_put n)) (fun _ _ _ _ h => h)
  have D_law_put := A_law_put 60
  have D_law_grown : Df P w K mg base CX0 (60 + 1) "_law_grown" ["_law_order_here"] spBld := df_of (k := 60) F12 sc_law_grown m12 q12 (fun _ _ _ _ _ _ hr hg => b_law_grown B hr hg D_law_put (by omega)) (sem_plain (e_law_grown)) (fun _ _ _ _ h => h)
  have D_law_all : Df P w K mg base CX0 (0 + 1) "_law_all" ["_law_letters"] spAll := df_of (k := 0) F13 sc_law_all m13 q13 (fun _ _ _ _ _ _ hr hg => b_law_all B hr hg ) (sem_plain (e_law_all)) (fun _ _ _ _ h => h)
  have A_law_number : ∀ n, Df P w K mg base CX0 (0 + n) "_law_number" ["_law_tree"] (spNum n) := fun n => by
    induction n with
    | zero => exact df_false F14 m14 q14 (by rintro _ _ _ _ ⟨_, _, h, _⟩; exact absurd h (Nat.not_lt_zero _))
    | succ n ih => exact df_of (k := 0 + n) F14 sc_law_number m14 q14 (fun _ _ _ _ _ _ hr hg => b_law_number B hr hg ih (by omega)) (sem_plain (e_law_number n)) (fun _ _ _ _ h => h)
  have D_law_number := A_law_number 62
  exact (dfG_of (k := 126) FL sc_law (fun _ _ _ _ _ _ hr hg => b_law B hr hg D_law_begin (by omega) D_law_order (by omega) D_law_grown (by omega) D_law_all (by omega) D_law_same (by omega) D_count_orders (by omega) D_law_number (by omega)) (sem_plain e_law) (fun _ _ _ _ h => h)).mono (by omega)
end Pr
open PySem PySem.W PySem.Calls PyProof.Rows
theorem PySem.Challenge.cw_treewalks_k32_orders_counted_holds : PySem.Challenge.rw_treewalks_k32_orders_counted.Holds := by
  w_on; o_law
  refine HandSHeadRun.head_any (r := OpenLaw.row PySem.Challenge.rw_treewalks_k32_orders_counted) (q := view (OpenLaw.row PySem.Challenge.rw_treewalks_k32_orders_counted).prog [19]) (H := Pr.hk) (ob := Pr.ob) (M := 3000) (loose := Pr.loose) (d := HandSHeadRun.topDef (OpenLaw.row PySem.Challenge.rw_treewalks_k32_orders_counted).prog 19) (kwd := []) Pr.ob_eq
    (by kernel_rfl) (fun s => by kernel_rfl) Pr.run (by kernel_rfl) (by kernel_rfl) (by kernel_rfl) (by rfl) (by first | assumption | decide +kernel) (by decide +kernel) ⟨rfl, rfl, rfl, rfl, rfl, by decide +kernel⟩ ?hw ?hc
  case hw => w_witness2
  case hc =>
    refine Dz.walkG (l := PySem.Challenge.rw_treewalks_k32_orders_counted) (n := 63) (k := 130) (x := "_law_script") (CX := fun _ => L2.CX0) rfl (by rw [sizeLine_eq]; decide) (by kernel_rfl) ⟨rfl, by decide, by decide⟩ ?F (fun _ _ _ _ _ z => z)
    intro w mg fa h Y G hmg0
    obtain ⟨K, KX, c⟩ := Y
    have hmg : mg ("law" : PySem.Str) = some (.ref fa) := by
      have e : (HandSHeadRun.topDef (OpenLaw.row PySem.Challenge.rw_treewalks_k32_orders_counted).prog 19).name = ("law" : PySem.Str) := by kernel_rfl
      rw [← e]
      exact hmg0
    obtain ⟨fd, F⟩ := c.def_ 15 (d := Pr.dd15) rfl
    have e := hmg.symm.trans (He.glo_ok KX G (c.fact 15 (f := .glo "law") rfl))
    cases e
    have b := L2.FunD.bindsA (ps := ["_law_script"]) F fun _ _ _ _ _ _ us hl => match us, hl with | [_], _ => rfl
    exact ⟨K, fd, Pr.spLaw, KX, fun s v => b s [v] rfl, fun ns hl hb => ⟨ns, rfl, Nat.le_trans hl (by decide), rfl, fun _ => rfl⟩, fun base _ _ => Pr.chain KX G c base F⟩
