import PyProof.Rows.All
import Wide.All
import OpenK.AllK
import Wide.FinOn
import PyProof.EqAt
import PyProof.EqKinds
import PyProof.TupleCall
import HandS.ForMost
import HandS.ForExc
import HandS.Conv
import HandS.IsInst
import HandS.Text
import HandS.More
import HandS.RaiseMore
import HandS.Style
import HandS.TupAny
import HandS.Small
import HandS.ExcInit
import HandS.Defaults
import HandS.HeadHook2
import HandS.NoneIn
import KE.KDictDisplayH
import PyProof.ReprReads
import PyProof.ReprRoads
import PyProof.CallFns
import HandS.Words
import HandS.Head2
import HandS.Ends
import HandS.HeadEnd
import HandS.EndBits
import KE.KStateDown
import HandS.Base
import HandS.Call
import HandS.WordsExc
import HandS.Head0
import HandS.Head1
import HandS.HeadHook1
import PyProof.ReprLen
import PyProof.FitsInt
import PySem.Challenge.RW_viewback_k01_names_and_trees
set_option Elab.async false
set_option linter.all false
set_option maxRecDepth 100000
set_option maxHeartbeats 0
set_option autoImplicit false
/-! Va: data (PyData) over the abstract heap: Rep, the data heap G, slots, outcomes, the reading of an expression. -/
namespace Vb
open PySem PySem.Spec PyProof.Rows L2
abbrev D := PyData
abbrev St := L2.St
def kD : Key → D
  | .inl i => .int i
  | .inr x => .str x
/-- at a stands a dict of one pair -/
def OddAt (a : Addr) (ku vu : Value) (h : Heap) : Prop := (a == sysModules) = false ∧ ∃ (o : Obj) (e : DictEntry) (ep : Nat), h.get? a = some o ∧ o.ExactDict ∧ o.data = .dict #[e] ep ∧ e.key = ku ∧ e.val = vu
/-- data that is no text and no number -/
def oddD : D → Bool
  | .str _ => false
  | .int _ => false
  | _ => true
/-- all keys are texts and numbers -/
def okK (ds : List (D × D)) : Bool := ds.all fun p => !oddD p.1
mutual
/-- v is the data d over the data heap G -/
inductive Rep (K : PySem.W.Frag) (G : Hp) : V → D → Prop
  | non : Rep K G .non .none
  | bl (b : Bool) : Rep K G (.bl b) (.bool b)
  | int (i : Int) : Rep K G (.int i) (.int i)
  | str (x : Str) : Rep K G (.str x) (.str x)
  | lst {a : Addr} {xs : List V} {ds : List D} : G a = some (.lst xs) → Reps K G xs ds → Rep K G (.ref a) (.list ds)
  | tup {a : Addr} {xs : List V} {ds : List D} : G a = some (.tup xs) → Reps K G xs ds → Rep K G (.ref a) (.tuple ds)
  | dic {a : Addr} {kvs : List (Key × V)} {ds : List (D × D)} : G a = some (.dK kvs) → KReps K G kvs ds → Rep K G (.ref a) (.dict ds)
  | stat {a : Addr} {ns : List Int} : SqL K (fun _ => none) a (ns.map V.int) → Rep K G (.ref a) (.list (ns.map .int))
  | odd {a : Addr} {k v : V} {ku vu : Value} {kd vd : D} : G a = some (.ext (OddAt a ku vu)) → L2.RelV k ku → L2.RelV v vu → Rep K G k kd → Rep K G v vd → oddD kd = true → Rep K G (.ref a) (.dict [(kd, vd)])
inductive Reps (K : PySem.W.Frag) (G : Hp) : List V → List D → Prop
  | nil : Reps K G [] []
  | cons {v : V} {d : D} {vs : List V} {ds : List D} : Rep K G v d → Reps K G vs ds → Reps K G (v :: vs) (d :: ds)
inductive KReps (K : PySem.W.Frag) (G : Hp) : List (Key × V) → List (D × D) → Prop
  | nil : KReps K G [] []
  | cons {k : Key} {v : V} {d : D} {vs : List (Key × V)} {ds : List (D × D)} : Rep K G v d → KReps K G vs ds → KReps K G ((k, v) :: vs) ((kD k, d) :: ds)
end
/-- a heap grows -/
def Sub (G G' : Hp) : Prop := ∀ a u, G a = some u → G' a = some u
theorem Sub.refl {G : Hp} : Sub G G := fun _ _ h => h
theorem Sub.trans {G G' G'' : Hp} (h : Sub G G') (h' : Sub G' G'') : Sub G G'' := fun a u e => h' a u (h a u e)
section
variable {K : PySem.W.Frag} {G G' : Hp}
mutual
theorem Rep.mono (s : Sub G G') : ∀ {v : V} {d : D}, Rep K G v d → Rep K G' v d
  | _, _, .non => .non
  | _, _, .bl b => .bl b
  | _, _, .int i => .int i
  | _, _, .str x => .str x
  | _, _, .lst h r => .lst (s _ _ h) (Reps.mono s r)
  | _, _, .tup h r => .tup (s _ _ h) (Reps.mono s r)
  | _, _, .dic h r => .dic (s _ _ h) (KReps.mono s r)
  | _, _, .stat h => .stat h
  | _, _, .odd h r1 r2 x y z => .odd (s _ _ h) r1 r2 (Rep.mono s x) (Rep.mono s y) z
theorem Reps.mono (s : Sub G G') : ∀ {v : List V} {d : List D}, Reps K G v d → Reps K G' v d
  | _, _, .nil => .nil
  | _, _, .cons h r => .cons (Rep.mono s h) (Reps.mono s r)
theorem KReps.mono (s : Sub G G') : ∀ {v : List (Key × V)} {d : List (D × D)}, KReps K G v d → KReps K G' v d
  | _, _, .nil => .nil
  | _, _, .cons h r => .cons (Rep.mono s h) (KReps.mono s r)
end
theorem Reps.length : ∀ {vs : List V} {ds : List D}, Reps K G vs ds → vs.length = ds.length
  | _, _, .nil => rfl
  | _, _, .cons _ r => congrArg (· + 1) r.length
theorem KReps.length : ∀ {vs : List (Key × V)} {ds : List (D × D)}, KReps K G vs ds → vs.length = ds.length
  | _, _, .nil => rfl
  | _, _, .cons _ r => congrArg (· + 1) r.length
theorem Reps.get : ∀ {vs : List V} {ds : List D} {i : Nat} {d : D}, Reps K G vs ds → ds[i]? = some d → ∃ v, vs[i]? = some v ∧ Rep K G v d
  | _, _, _, _, .nil, e => by simp at e
  | _, _, 0, _, .cons h _, e => by simp at e; subst e; exact ⟨_, rfl, h⟩
  | _, _, i + 1, d, .cons _ r, e => by
    obtain ⟨v, h1, h2⟩ := r.get (i := i) (d := d) (by simpa using e)
    exact ⟨v, by simpa using h1, h2⟩
theorem Reps.append : ∀ {vs ws : List V} {ds es : List D}, Reps K G vs ds → Reps K G ws es → Reps K G (vs ++ ws) (ds ++ es)
  | _, _, _, _, .nil, s => s
  | _, _, _, _, .cons h r, s => .cons h (r.append s)
theorem Reps.take : ∀ {vs : List V} {ds : List D} (n : Nat), Reps K G vs ds → Reps K G (vs.take n) (ds.take n)
  | _, _, 0, _ => .nil
  | _, _, _ + 1, .nil => .nil
  | _, _, n + 1, .cons h r => .cons h (r.take n)
theorem Reps.drop : ∀ {vs : List V} {ds : List D} (n : Nat), Reps K G vs ds → Reps K G (vs.drop n) (ds.drop n)
  | _, _, 0, r => r
  | _, _, _ + 1, .nil => .nil
  | _, _, n + 1, .cons _ r => r.drop n
theorem Reps.set {v : V} {d : D} (h : Rep K G v d) : ∀ {vs : List V} {ds : List D} (n : Nat), Reps K G vs ds → Reps K G (vs.set n v) (ds.set n d)
  | _, _, _, .nil => .nil
  | _, _, 0, .cons _ r => .cons h r
  | _, _, n + 1, .cons h' r => .cons h' (Reps.set h n r)
theorem Reps.ints : ∀ (ns : List Int), Reps K G (ns.map V.int) (ns.map PyData.int)
  | [] => .nil
  | _ :: r => .cons (.int _) (Reps.ints r)
end
/-! ### the data heap and the abstract heap -/
/-- what stands in G stands in H, too; a dict is locked there -/
def GAt (H : Hp) (a : Addr) : HO → Prop
  | .lst xs => Rd H a (.lst xs)
  | .tup xs => H a = some (.tup xs)
  | .dK kvs => ∃ od, H a = some (.frz od (.dK kvs))
  | .ext φ => ∃ od, H a = some (.frz od (.ext φ))
  | _ => False
def Good (G H : Hp) : Prop := ∀ a u, G a = some u → GAt H a u
theorem Good.there {G H : Hp} (g : Good G H) {a : Addr} {u : HO} (e : G a = some u) : H a ≠ none := by
  have h := g a u e
  cases u with
  | lst xs =>
    rcases h with h | ⟨o, h⟩ <;> (intro z; rw [h] at z; cases z)
  | tup xs => intro z; have h : H a = some (.tup xs) := h; rw [h] at z; cases z
  | dK kvs => obtain ⟨od, h⟩ := h; intro z; rw [h] at z; cases z
  | ext φ => obtain ⟨od, h⟩ := h; intro z; rw [h] at z; cases z
  | _ => exact False.elim h
theorem Good.none_of {G H : Hp} (g : Good G H) {a : Addr} (e : H a = none) : G a = none := by
  cases q : G a with
  | none => rfl
  | some u => exact absurd e (g.there q)
theorem GAt.keep {H H' : Hp} {a : Addr} {u : HO} (h : GAt H a u) (k : ∀ v, H a = some v → H' a = some v) : GAt H' a u := by
  cases u with
  | lst xs =>
    rcases h with h | ⟨o, h⟩
    · exact .inl (k _ h)
    · exact .inr ⟨o, k _ h⟩
  | tup xs => exact k _ h
  | dK kvs => obtain ⟨od, h⟩ := h; exact ⟨od, k _ h⟩
  | ext φ => obtain ⟨od, h⟩ := h; exact ⟨od, k _ h⟩
  | _ => exact h
theorem Good.keep {G H H' : Hp} (g : Good G H) (k : Sub H H') : Good G H' := fun a u e => (g a u e).keep (k a)
theorem Good.rdk {G H : Hp} (g : Good G H) {a : Addr} {kvs : List (Key × V)} (e : G a = some (.dK kvs)) : Rd H a (.dK kvs) := by
  obtain ⟨od, h⟩ := g a _ e
  exact .inr ⟨od, h⟩
theorem Good.rdl {G H : Hp} (g : Good G H) {a : Addr} {xs : List V} (e : G a = some (.lst xs)) : Rd H a (.lst xs) := g a _ e
theorem Good.tup {G H : Hp} (g : Good G H) {a : Addr} {xs : List V} (e : G a = some (.tup xs)) : H a = some (.tup xs) := g a _ e
/-- an object of one's own: a list, a dict, its parts are data -/
inductive Obj1 (K : PySem.W.Frag) (G : Hp) : HO → D → Prop
  | lst {xs : List V} {ds : List D} : Reps K G xs ds → Obj1 K G (.lst xs) (.list ds)
  | dic {kvs : List (Key × V)} {ds : List (D × D)} : KReps K G kvs ds → Obj1 K G (.dK kvs) (.dict ds)
theorem Obj1.mono {K : PySem.W.Frag} {G G' : Hp} (s : Sub G G') {u : HO} {d : D} : Obj1 K G u d → Obj1 K G' u d
  | .lst r => .lst (r.mono s)
  | .dic r => .dic (r.mono s)
theorem Obj1.mut {K : PySem.W.Frag} {G : Hp} {u : HO} {d : D} : Obj1 K G u d → Mut (some u)
  | .lst _ => True.intro
  | .dic _ => True.intro
/-! ### slots -/
inductive SV where
  | un
  | dat (d : D)
  | own (d : D)
abbrev Env := List SV
/-- the objects of one's own at the slots -/
def Own (Γ : Env) (σ : St) (a : Addr) : Prop := ∃ (i : Nat) (d : D), Γ[i]? = some (SV.own d) ∧ σ[i]? = some (some (V.ref a))
def SlotOk (K : PySem.W.Frag) (G H : Hp) (o : Option (Option V)) : SV → Prop
  | .un => True
  | .dat d => ∃ v, o = some (some v) ∧ Rep K G v d
  | .own d => ∃ a u, o = some (some (.ref a)) ∧ H a = some u ∧ G a = none ∧ Obj1 K G u d
structure StOk (K : PySem.W.Frag) (G H : Hp) (Γ : Env) (σ : St) : Prop where
  good : Good G H
  len : Γ.length = σ.length
  slot : ∀ (i : Nat) (sv : SV), Γ[i]? = some sv → SlotOk K G H σ[i]? sv
  dist : ∀ (i j : Nat) (d e : D) (a : Addr), Γ[i]? = some (.own d) → Γ[j]? = some (.own e) → σ[i]? = some (some (.ref a)) → σ[j]? = some (some (.ref a)) → i = j
/-- an expression has run: what was there is there; the data heap grew by new objects -/
structure Stp (G H G' H' : Hp) : Prop where
  keep : Sub H H'
  sub : Sub G G'
  new : ∀ a, G' a ≠ none → G a ≠ none ∨ H a = none
  good : Good G' H'
theorem Stp.refl {G H : Hp} (g : Good G H) : Stp G H G H := ⟨.refl, .refl, fun _ h => .inl h, g⟩
theorem Stp.trans {G H G1 H1 G2 H2 : Hp} (a : Stp G H G1 H1) (b : Stp G1 H1 G2 H2) : Stp G H G2 H2 where
  keep := a.keep.trans b.keep
  sub := a.sub.trans b.sub
  new := fun x h => by
    rcases b.new x h with h | h
    · exact a.new x h
    · refine .inr ?_
      cases q : H x with
      | none => rfl
      | some u => rw [a.keep x u q] at h; cases h
  good := b.good
theorem Stp.noneG {G H G' H' : Hp} (s : Stp G H G' H') {a : Addr} (g : G a = none) (h : H a ≠ none) : G' a = none := by
  cases q : G' a with
  | none => rfl
  | some u =>
    rcases s.new a (by rw [q]; simp) with z | z
    · exact absurd g z
    · exact absurd z h
theorem SlotOk.mono {K : PySem.W.Frag} {G H G' H' : Hp} (s : Stp G H G' H') {o : Option (Option V)} : ∀ {sv : SV}, SlotOk K G H o sv → SlotOk K G' H' o sv
  | .un, h => h
  | .dat d, ⟨v, e, r⟩ => ⟨v, e, r.mono s.sub⟩
  | .own d, ⟨a, u, e, h, g, r⟩ => ⟨a, u, e, s.keep _ _ h, s.noneG g (by rw [h]; simp), r.mono s.sub⟩
theorem StOk.mono {K : PySem.W.Frag} {G H G' H' : Hp} {Γ : Env} {σ : St} (o : StOk K G H Γ σ) (s : Stp G H G' H') : StOk K G' H' Γ σ :=
  ⟨s.good, o.len, fun i sv e => (o.slot i sv e).mono s, o.dist⟩
/-! ### outcomes -/
inductive Md where
  | dat | own | bor
  deriving DecidableEq
structure Exn where
  cls : String
  fs : List (Str × D)
inductive Out where
  | ok (m : Md) (d : D)
  | err (x : Exn)
  | stuck
abbrev Ev := Env → Out
/-- a value that came -/
def RVal (K : PySem.W.Frag) (G H : Hp) (v : V) (d : D) : Md → Prop
  | .dat => Rep K G v d
  | .own => ∃ a u, v = .ref a ∧ H a = some u ∧ G a = none ∧ Obj1 K G u d
  | .bor => ∃ a u, v = .ref a ∧ H a = some u ∧ Obj1 K G u d
theorem RVal.mono {K : PySem.W.Frag} {G H G' H' : Hp} (s : Stp G H G' H') {v : V} {d : D} : ∀ {m : Md}, RVal K G H v d m → RVal K G' H' v d m
  | .dat, h => Rep.mono s.sub h
  | .own, ⟨a, u, e, h, g, r⟩ => ⟨a, u, e, s.keep _ _ h, s.noneG g (by rw [h]; simp), r.mono s.sub⟩
  | .bor, ⟨a, u, e, h, r⟩ => ⟨a, u, e, s.keep _ _ h, r.mono s.sub⟩
/-- .. the object is new -/
def New1 (H : Hp) (v : V) : Md → Prop
  | .own => ∀ a, v = .ref a → H a = none
  | _ => True
/-- the fields of an exception -/
inductive FReps (K : PySem.W.Frag) (G : Hp) : List (Str × V) → List (Str × D) → Prop
  | nil : FReps K G [] []
  | cons {f : Str} {v : V} {d : D} {vs : List (Str × V)} {ds : List (Str × D)} : Rep K G v d → FReps K G vs ds → FReps K G ((f, v) :: vs) ((f, d) :: ds)
/-- an exception: its class, its dict -/
def XRep (K : PySem.W.Frag) (ca : String → Addr) (G H : Hp) (x : Exn) (c : Value) (dx : Option Addr) : Prop :=
  c = .ref (ca x.cls) ∧ ((x.fs = [] ∧ dx = none) ∨ (x.fs ≠ [] ∧ ∃ d vs, dx = some d ∧ H d = some (.xd vs) ∧ FReps K G vs x.fs))
/-- what is wanted behind an expression -/
def Fin (K : PySem.W.Frag) (ca : String → Addr) (W : WX) (σ : St) (G H : Hp) (Q : VK) : Out → Prop
  | .ok m d => ∀ v G' H', Stp G H G' H' → RVal K G' H' v d m → New1 H v m → Q v H'
  | .err x => ∀ c dx G' H', Stp G H G' H' → XRep K ca G' H' x c dx → W c dx σ H'
  | .stuck => False
/-- the reading of an expression by its outcome -/
def tE (K : PySem.W.Frag) (ca : String → Addr) (W : WX) (f : Ev) (Γ : Env) : TE := fun σ H Q => ∃ G, StOk K G H Γ σ ∧ Fin K ca W σ G H Q (f Γ)
theorem pimp {X : Cx} {e : Expr} {t t' : TE} (h : PE X e t) (i : ∀ σ H Q, t' σ H Q → t σ H Q) : PE X e t' := ⟨fun p s σ H Q I q => h.run p s σ H Q I (i _ _ _ q)⟩
/-- SOUND: e does what f says -/
def Snd (X : Cx) (ca : String → Addr) (W : WX) (e : Expr) (f : Ev) : Prop := ∀ Γ, PE X e (tE X.K ca W f Γ)
end Vb
/-! Vb: expressions: names, constants, operators, comparisons, and, or, not, tests. -/
namespace Vb
open PySem PySem.Spec PyProof.Rows L2
/-- a value as it is read now -/
def View (K : PySem.W.Frag) (G H : Hp) (v : V) (d : D) : Prop := Rep K G v d ∨ ∃ a u, v = .ref a ∧ H a = some u ∧ Obj1 K G u d
theorem RVal.view {K : PySem.W.Frag} {G H : Hp} {v : V} {d : D} : ∀ {m : Md}, RVal K G H v d m → View K G H v d
  | .dat, h => .inl h
  | .own, ⟨a, u, e, h, _, r⟩ => .inr ⟨a, u, e, h, r⟩
  | .bor, ⟨a, u, e, h, r⟩ => .inr ⟨a, u, e, h, r⟩
theorem View.mono {K : PySem.W.Frag} {G H G' H' : Hp} (s : Stp G H G' H') {v : V} {d : D} : View K G H v d → View K G' H' v d
  | .inl h => .inl (h.mono s.sub)
  | .inr ⟨a, u, e, h, r⟩ => .inr ⟨a, u, e, s.keep _ _ h, r.mono s.sub⟩
section
variable {K : PySem.W.Frag} {G H : Hp} {v : V}
theorem View.int {i : Int} (h : View K G H v (.int i)) : v = .int i := by
  rcases h with h | ⟨a, u, e, _, r⟩
  · cases h; rfl
  · cases r
theorem View.str {x : Str} (h : View K G H v (.str x)) : v = .str x := by
  rcases h with h | ⟨a, u, e, _, r⟩
  · cases h; rfl
  · cases r
theorem View.bl {b : Bool} (h : View K G H v (.bool b)) : v = .bl b := by
  rcases h with h | ⟨a, u, e, _, r⟩
  · cases h; rfl
  · cases r
theorem View.non (h : View K G H v .none) : v = .non := by
  rcases h with h | ⟨a, u, e, _, r⟩
  · cases h; rfl
  · cases r
theorem View.lst {ds : List D} (g : Good G H) (h : View K G H v (.list ds)) : ∃ a xs, v = .ref a ∧ SqL K H a xs ∧ Reps K G xs ds := by
  rcases h with h | ⟨a, u, e, h, r⟩
  · cases h with
    | lst h r => exact ⟨_, _, rfl, .inl (g.rdl h), r⟩
    | stat h =>
      rcases h with h | h
      · rcases h with h | ⟨o, h⟩ <;> cases h
      · exact ⟨_, _, rfl, .inr h, Reps.ints _⟩
  · cases r with
    | lst r => exact ⟨a, _, e, .of h, r⟩
theorem View.tup {ds : List D} (g : Good G H) (h : View K G H v (.tuple ds)) : ∃ a xs, v = .ref a ∧ H a = some (.tup xs) ∧ Reps K G xs ds := by
  rcases h with h | ⟨a, u, e, h, r⟩
  · cases h with
    | tup h r => exact ⟨_, _, rfl, g.tup h, r⟩
  · cases r
theorem View.dic {ds : List (D × D)} (g : Good G H) (hk : okK ds = true) (h : View K G H v (.dict ds)) : ∃ a kvs, v = .ref a ∧ Rd H a (.dK kvs) ∧ KReps K G kvs ds := by
  rcases h with h | ⟨a, u, e, h, r⟩
  · cases h with
    | dic h r => exact ⟨_, _, rfl, g.rdk h, r⟩
    | odd _ _ _ _ _ z => unfold okK at hk; simp [z] at hk
  · cases r with
    | dic r => exact ⟨a, _, e, .of h, r⟩
end
/-! ### outcomes, one behind another -/
def Out.bind (o : Out) (f : Md → D → Out) : Out := match o with
  | .ok m d => f m d
  | .err x => .err x
  | .stuck => .stuck
section
variable {K : PySem.W.Frag} {ca : String → Addr} {W : WX} {σ : St} {G H : Hp} {Q : VK}
theorem Fin.bind {o : Out} {f : Md → D → Out} (h : Fin K ca W σ G H Q (o.bind f)) : Fin K ca W σ G H (fun v H1 => ∃ m d G1, o = .ok m d ∧ Stp G H G1 H1 ∧ RVal K G1 H1 v d m ∧ New1 H v m ∧ Fin K ca W σ G H Q (f m d)) o := by
  cases o with
  | ok m d => exact fun v G' H' s r n => ⟨m, d, G', rfl, s, r, n, h⟩
  | err x => exact h
  | stuck => exact h
theorem Fin.later {o : Out} {G1 H1 : Hp} (s : Stp G H G1 H1) (h : Fin K ca W σ G H Q o) : Fin K ca W σ G1 H1 Q o := by
  cases o with
  | ok m d => exact fun v G' H' s' r n => h v G' H' (s.trans s') r (by
      cases m with
      | own =>
        intro a e
        have z := n a e
        cases q : H a with
        | none => rfl
        | some u => rw [s.keep a u q] at z; cases z
      | _ => trivial)
  | err x => exact fun c dx G' H' s' r => h c dx G' H' (s.trans s') r
  | stuck => exact h
theorem Fin.imp {o : Out} {Q' : VK} (h : Fin K ca W σ G H Q o) (i : ∀ v G' H', Stp G H G' H' → Q v H' → Q' v H') : Fin K ca W σ G H Q' o := by
  cases o with
  | ok m d => exact fun v G' H' s r n => i v G' H' s (h v G' H' s r n)
  | err x => exact h
  | stuck => exact h
end
/-! ### names, constants -/
section
variable {X : Cx} {ca : String → Addr} {W : WX}
def eVar (i : Nat) : Ev := fun Γ => match Γ[i]? with
  | some (.dat d) => .ok .dat d
  | some (.own d) => .ok .bor d
  | _ => .stuck
theorem snd_var {i : Nat} {x : Str} {pos : Pos} (hN : X.N[i]? = some x) (hv : Vis X.env.scope x) (hd : (x == ("__debug__" : Str)) = false := by decide) (hcd : (x == ("__classdict__" : Str)) = false := by decide) :
    Snd X ca W (.Name x pos) (eVar i) := fun Γ => pimp (pe_var hN hv hd hcd) fun σ H Q ⟨G, o, h⟩ => by
  unfold eVar at h
  cases e : Γ[i]? with
  | none => rw [e] at h; exact False.elim h
  | some sv =>
    rw [e] at h
    have s := o.slot i sv e
    cases sv with
    | un => exact False.elim h
    | dat d =>
      obtain ⟨v, e1, r⟩ := s
      exact ⟨v, e1, h v G H (.refl o.good) r trivial⟩
    | own d =>
      obtain ⟨a, u, e1, hh, _, r⟩ := s
      exact ⟨.ref a, e1, h _ G H (.refl o.good) ⟨a, u, rfl, hh, r⟩ trivial⟩
def eC (d : D) : Ev := fun _ => .ok .dat d
theorem snd_c {e : Expr} {v : V} {d : D} (h : PE X e (tC v)) (r : ∀ G, Rep X.K G v d) : Snd X ca W e (eC d) := fun Γ => pimp h fun σ H Q ⟨G, o, q⟩ => q v G H (.refl o.good) (r G) trivial
theorem snd_int {i : Int} {j : Nat} {pos : Pos} : Snd X ca W (.Constant (.int i) j pos) (eC (.int i)) := snd_c pe_int fun _ => .int i
theorem snd_str {x : Str} {j : Nat} {pos : Pos} : Snd X ca W (.Constant (.str x) j pos) (eC (.str x)) := snd_c pe_str fun _ => .str x
theorem snd_bl {b : Bool} {j : Nat} {pos : Pos} : Snd X ca W (.Constant (.bool b) j pos) (eC (.bool b)) := snd_c pe_bl fun _ => .bl b
theorem snd_non {j : Nat} {pos : Pos} : Snd X ca W (.Constant .none j pos) (eC .none) := snd_c pe_non fun _ => .non
theorem snd_gint {x : Str} {i : Int} {t : Tok} {pos : Pos} (hg : Gl X x) (hm : X.mg x = some (.int i t)) (hd : (x == ("__debug__" : Str)) = false := by decide) : Snd X ca W (.Name x pos) (eC (.int i)) := snd_c (pe_glob (v := .int i) hg hm (show RelV (.int i) (.int i t) from ⟨t, rfl⟩) hd) fun _ => .int i
theorem snd_gstr {x : Str} {z : Str} {t : Tok} {pos : Pos} (hg : Gl X x) (hm : X.mg x = some (.str z t)) (hd : (x == ("__debug__" : Str)) = false := by decide) : Snd X ca W (.Name x pos) (eC (.str z)) := snd_c (pe_glob (v := .str z) hg hm (show RelV (.str z) (.str z t) from ⟨t, rfl⟩) hd) fun _ => .str z
/-! ### own becomes data -/
def Out.dat : Out → Out
  | .ok .own d => .ok .dat d
  | .ok .bor _ => .stuck
  | o => o
def eDat (f : Ev) : Ev := fun Γ => (f Γ).dat
/-- a dict of one's own is locked for good -/
theorem froz {K : PySem.W.Frag} {G H G' H' : Hp} {a : Addr} {u : HO} {d : D} (s : Stp G H G' H') (n : H a = none) (h : H' a = some u) (g : G' a = none) (r : Obj1 K G' u d) :
    (∃ xs, u = .lst xs ∧ Stp G H (upd G' a u) H' ∧ Rep K (upd G' a u) (.ref a) d) ∨ (∃ kvs, u = .dK kvs ∧ ∀ od, Stp G H (upd G' a u) (upd H' a (.frz od u)) ∧ Rep K (upd G' a u) (.ref a) d) := by
  have sg : Sub G' (upd G' a u) := fun b w e => by
    rw [upd_ne (fun z => by rw [z, g] at e; cases e)]
    exact e
  have nw : ∀ b, upd G' a u b ≠ none → G b ≠ none ∨ H b = none := fun b e => by
    by_cases hb : b = a
    · subst hb; exact .inr n
    · rw [upd_ne hb] at e; exact s.new b e
  cases r with
  | @lst xs ds r =>
    refine .inl ⟨xs, rfl, ⟨s.keep, s.sub.trans sg, nw, fun b w e => ?_⟩, .lst upd_same (r.mono sg)⟩
    by_cases hb : b = a
    · subst hb; rw [upd_same] at e; cases e; exact .of h
    · rw [upd_ne hb] at e; exact s.good b w e
  | @dic kvs ds r =>
    refine .inr ⟨kvs, rfl, fun od => ⟨⟨fun b w e => ?_, s.sub.trans sg, nw, fun b w e => ?_⟩, .dic upd_same (r.mono sg)⟩⟩
    · have hb : b ≠ a := fun z => by rw [z, n] at e; cases e
      rw [upd_ne hb]; exact s.keep b w e
    · by_cases hb : b = a
      · subst hb; rw [upd_same] at e; cases e; exact ⟨od, upd_same⟩
      · rw [upd_ne hb] at e
        exact (s.good b w e).keep fun v q => by rw [upd_ne hb]; exact q
theorem snd_dat {e : Expr} {f : Ev} (h : Snd X ca W e f) : Snd X ca W e (eDat f) := fun Γ => ⟨fun pins s σ H Q I ⟨G, o, q⟩ => by
  unfold eDat at q
  have key : tE X.K ca W f Γ σ H (fun v H1 => Q v H1 ∨ ∃ a u, v = .ref a ∧ H1 a = some u ∧ Mut (some u) ∧ ∀ od, Q v (upd H1 a (.frz od u))) := by
    refine ⟨G, o, ?_⟩
    cases e1 : f Γ with
    | stuck => rw [e1] at q; exact q
    | err x => rw [e1] at q; exact q
    | ok m d =>
      rw [e1] at q
      cases m with
      | dat => exact fun v G' H' s r n => .inl (q v G' H' s r n)
      | bor => exact False.elim q
      | own =>
        rintro v G' H' s ⟨a, u, rfl, hh, g, r⟩ n
        rcases froz s (n a rfl) hh g r with ⟨xs, rfl, s2, r2⟩ | ⟨kvs, rfl, s2⟩
        · exact .inl (q _ _ _ s2 r2 trivial)
        · exact .inr ⟨a, _, rfl, hh, True.intro, fun od => q _ _ _ (s2 od).1 (s2 od).2 trivial⟩
  refine thn ((h Γ).run pins s σ H _ I key) fun u s' ⟨v, H', I', r, z⟩ => ?_
  rcases z with z | ⟨a, w, rfl, hw, mu, z⟩
  · exact ⟨v, H', I', r, z⟩
  · obtain ⟨od, I2⟩ := I'.lock hw mu
    exact ⟨_, _, I2, r, z od⟩⟩
/-! ### two operands -/
/-- a rule for an operation on data -/
def rD (K : PySem.W.Frag) (g : D → D → Option (Md × D)) : R2 := fun x y H Q => ∃ G dx dy m d, Good G H ∧ View K G H x dx ∧ View K G H y dy ∧ g dx dy = some (m, d) ∧ ∀ v G' H', Stp G H G' H' → RVal K G' H' v d m → New1 H v m → Q v H'
def out2 (g : D → D → Option (Md × D)) (x y : D) : Out := match g x y with
  | some (m, d) => .ok m d
  | none => .stuck
def eBin (g : D → D → Option (Md × D)) (fa fb : Ev) : Ev := fun Γ => (fa Γ).bind fun _ x => (fb Γ).bind fun _ y => out2 g x y
theorem tE_bin {g : D → D → Option (Md × D)} {fa fb : Ev} {Γ : Env} {σ : St} {H : Hp} {Q : VK} (h : tE X.K ca W (eBin g fa fb) Γ σ H Q) : tOp (rD X.K g) (tE X.K ca W fa Γ) (tE X.K ca W fb Γ) σ H Q := by
  obtain ⟨G, o, q⟩ := h
  refine ⟨G, o, q.bind.imp fun v G1 H1 s1 ⟨m, d, G2, e1, s2, r1, n1, q1⟩ => ?_⟩
  refine ⟨G2, o.mono s2, (q1.later s2).bind.imp fun w G3 H3 s3 ⟨m', d', G4, e2, s4, r2, n2, q2⟩ => ?_⟩
  have q3 := q2.later s4
  unfold out2 at q3
  cases e : g d d' with
  | none => rw [e] at q3; exact False.elim q3
  | some p =>
    obtain ⟨m3, d3⟩ := p
    rw [e] at q3
    exact ⟨G4, d, d', m3, d3, s4.good, r1.view.mono s4, r2.view, e, q3⟩
theorem snd_bin {a b : Expr} {fa fb : Ev} {op : Operator} {g : D → D → Option (Md × D)} {pos : Pos} (ho : OpR X (binaryOp op) (rD X.K g)) (ha : Snd X ca W a fa) (hb : Snd X ca W b fb) : Snd X ca W (.BinOp a op b pos) (eBin g fa fb) :=
  fun Γ => pimp (pe_op ho (ha Γ) (hb Γ)) fun σ H Q h => tE_bin h
theorem snd_cmp {a b : Expr} {fa fb : Ev} {op : CmpOp} {g : D → D → Option (Md × D)} {pos : Pos} (ho : OpR X (compareOp op) (rD X.K g)) (ha : Snd X ca W a fa) (hb : Snd X ca W b fb) (hm : behindInMarks op b = false) :
    Snd X ca W (.Compare a [op] [b] pos) (eBin g fa fb) := fun Γ => pimp (pe_cmpR ho (ha Γ) (hb Γ) hm) fun σ H Q h => tE_bin h
theorem snd_ix {a b : Expr} {fa fb : Ev} {g : D → D → Option (Md × D)} {pos : Pos} (hi : IxR X (rD X.K g)) (ha : Snd X ca W a fa) (hb : Snd X ca W b fb) (hs : PlainIx b) : Snd X ca W (.Subscript a b pos) (eBin g fa fb) :=
  fun Γ => pimp (pe_ix hi (ha Γ) (hb Γ) hs) fun σ H Q h => tE_bin h
/-- a rule's use: what comes is data that asks no heap -/
theorem rD_scalar {K : PySem.W.Frag} {G H : Hp} {Q : VK} {d : D} {v : V} (g : Good G H) (h : ∀ v G' H', Stp G H G' H' → RVal K G' H' v d .dat → New1 H v .dat → Q v H') (r : Rep K G v d) : Q v H := h v G H (.refl g) r trivial
/-! ### arithmetic -/
def gAdd : D → D → Option (Md × D)
  | .int i, .int j => some (.dat, .int (i + j))
  | .str x, .str y => if x.length + y.length ≤ sizeLine then some (.dat, .str (x ++ y)) else none
  | _, _ => none
def gSub : D → D → Option (Md × D)
  | .int i, .int j => some (.dat, .int (i - j))
  | _, _ => none
def gMul : D → D → Option (Md × D)
  | .int i, .int j => if (-(2 ^ 64) < i ∧ i < 2 ^ 64) ∨ (-(2 ^ 64) < j ∧ j < 2 ^ 64) then some (.dat, .int (i * j)) else none
  | _, _ => none
def gDiv : D → D → Option (Md × D)
  | .int i, .int j => if 0 < j ∧ j < 1073741824 then some (.dat, .int (i / j)) else none
  | _, _ => none
def gMod : D → D → Option (Md × D)
  | .int i, .int j => if 0 < j then some (.dat, .int (i % j)) else none
  | _, _ => none
def gPow : D → D → Option (Md × D)
  | .int i, .int j => if 0 ≤ j ∧ j ≤ 1000000 ∧ i.natAbs < 2 ^ 64 then some (.dat, .int (i ^ j.toNat)) else none
  | _, _ => none
theorem gAdd_ok : OpR X (binaryOp .Add) (rD X.K gAdd) := by
  intro pins s σ H x y v u Q I rx ry h
  obtain ⟨G, dx, dy, m, d, g, vx, vy, e, q⟩ := h
  unfold gAdd at e
  split at e
  · cases e
    cases vx.int; cases vy.int
    exact op_add pins s σ H _ _ v u Q I rx ry ⟨_, _, rfl, rfl, rD_scalar g q (.int _)⟩
  · split at e
    · rename_i hl
      cases e
      cases vx.str; cases vy.str
      exact op_add_str pins s σ H _ _ v u Q I rx ry ⟨_, _, rfl, rfl, hl, rD_scalar g q (.str _)⟩
    · cases e
  · cases e
theorem gSub_ok : OpR X (binaryOp .Sub) (rD X.K gSub) := by
  intro pins s σ H x y v u Q I rx ry h
  obtain ⟨G, dx, dy, m, d, g, vx, vy, e, q⟩ := h
  unfold gSub at e
  split at e
  · cases e
    cases vx.int; cases vy.int
    exact op_sub pins s σ H _ _ v u Q I rx ry ⟨_, _, rfl, rfl, rD_scalar g q (.int _)⟩
  · cases e
theorem gMul_ok : OpR X (binaryOp .Mult) (rD X.K gMul) := by
  intro pins s σ H x y v u Q I rx ry h
  obtain ⟨G, dx, dy, m, d, g, vx, vy, e, q⟩ := h
  unfold gMul at e
  split at e
  · split at e
    · rename_i hc
      cases e
      cases vx.int; cases vy.int
      exact op_mul pins s σ H _ _ v u Q I rx ry ⟨_, _, rfl, rfl, hc, rD_scalar g q (.int _)⟩
    · cases e
  · cases e
theorem gDiv_ok : OpR X (binaryOp .FloorDiv) (rD X.K gDiv) := by
  intro pins s σ H x y v u Q I rx ry h
  obtain ⟨G, dx, dy, m, d, g, vx, vy, e, q⟩ := h
  unfold gDiv at e
  split at e
  · split at e
    · rename_i hc
      cases e
      cases vx.int; cases vy.int
      exact op_fdiv pins s σ H _ _ v u Q I rx ry ⟨_, _, rfl, rfl, hc, rD_scalar g q (.int _)⟩
    · cases e
  · cases e
theorem gMod_ok : OpR X (binaryOp .Mod) (rD X.K gMod) := by
  intro pins s σ H x y v u Q I rx ry h
  obtain ⟨G, dx, dy, m, d, g, vx, vy, e, q⟩ := h
  unfold gMod at e
  split at e
  · split at e
    · rename_i hc
      cases e
      cases vx.int; cases vy.int
      exact op_mod pins s σ H _ _ v u Q I rx ry ⟨_, _, rfl, rfl, hc, rD_scalar g q (.int _)⟩
    · cases e
  · cases e
theorem gPow_ok : OpR X (binaryOp .Pow) (rD X.K gPow) := by
  intro pins s σ H x y v u Q I rx ry h
  obtain ⟨G, dx, dy, m, d, g, vx, vy, e, q⟩ := h
  unfold gPow at e
  split at e
  · split at e
    · rename_i hc
      cases e
      cases vx.int; cases vy.int
      exact op_pow pins s σ H _ _ v u Q I rx ry ⟨_, _, rfl, rfl, hc, rD_scalar g q (.int _)⟩
    · cases e
  · cases e
end
end Vb
/-! Vc: tables as data; == and in; is None; and, or, not; tests. -/
namespace Vb
open PySem PySem.Spec PyProof.Rows L2
/-! ### tables as data -/
def keq : D → D → Bool
  | .str x, .str y => decide (x = y)
  | .int i, .int j => decide (i = j)
  | _, _ => false
def isKey : D → Bool
  | .str _ => true
  | .int _ => true
  | _ => false
def dget (ds : List (D × D)) (k : D) : Option D := (ds.find? fun p => keq p.1 k).map (·.2)
def dput (ds : List (D × D)) (k d : D) : List (D × D) := if (ds.any fun p => keq p.1 k) = true then ds.map (fun p => if keq p.1 k = true then (p.1, d) else p) else ds ++ [(k, d)]
def ddrop (ds : List (D × D)) (k : D) : List (D × D) := ds.filter fun p => !keq p.1 k
theorem isKey_odd (d : D) : isKey d = !oddD d := by cases d <;> rfl
theorem keq_odd {d : D} (h : oddD d = true) (k : D) : keq d k = false := by cases d <;> first | (cases h; done) | (cases k <;> rfl)
theorem keq_kD (a b : Key) : keq (kD a) (kD b) = decide (a = b) := by
  cases a <;> cases b <;> simp [kD, keq]
theorem key_of_isKey {d : D} (h : isKey d = true) : ∃ k, d = kD k := by
  cases d with
  | str x => exact ⟨.inr x, rfl⟩
  | int i => exact ⟨.inl i, rfl⟩
  | _ => cases h
section
variable {K : PySem.W.Frag} {G : Hp}
/-- Option values -/
def ORep (K : PySem.W.Frag) (G : Hp) : Option V → Option D → Prop
  | some v, some d => Rep K G v d
  | none, none => True
  | _, _ => False
theorem KReps.val : ∀ {kvs : List (Key × V)} {ds : List (D × D)} (k : Key), KReps K G kvs ds → ORep K G (valV kvs k) (dget ds (kD k))
  | _, _, k, .nil => trivial
  | _, _, k, @KReps.cons _ _ j v d vs ds h r => by
    have ih := r.val k
    by_cases e : j = k
    · subst e
      rw [valV_pos (p := (j, v)) rfl]
      unfold dget
      rw [List.find?_cons_of_pos (by simp [keq_kD])]
      exact h
    · rw [valV_neg (p := (j, v)) e]
      unfold dget
      rw [List.find?_cons_of_neg (by simp [keq_kD, e])]
      exact ih
theorem ORep.isSome {o : Option V} {p : Option D} (h : ORep K G o p) : o.isSome = p.isSome := by
  cases o <;> cases p <;> first | rfl | exact h.elim
theorem KReps.any : ∀ {kvs : List (Key × V)} {ds : List (D × D)} (k : Key), KReps K G kvs ds → (kvs.any fun kv => decide (kv.1 = k)) = ds.any fun p => keq p.1 (kD k)
  | _, _, k, .nil => rfl
  | _, _, k, @KReps.cons _ _ j v d vs ds h r => by
    rw [List.any_cons, List.any_cons, r.any k, keq_kD]
theorem KReps.repl {v : V} {d : D} (hv : Rep K G v d) (k : Key) : ∀ {kvs : List (Key × V)} {ds : List (D × D)}, KReps K G kvs ds →
    KReps K G (kvs.map fun kv => if kv.1 = k then (kv.1, v) else kv) (ds.map fun p => if keq p.1 (kD k) = true then (p.1, d) else p)
  | _, _, .nil => .nil
  | _, _, @KReps.cons _ _ j w e vs ds h r => by
    have ih := KReps.repl hv k r
    rw [List.map_cons, List.map_cons]
    by_cases c : j = k
    · subst c
      simp only [keq_kD, decide_true, if_true]
      exact .cons hv ih
    · simp only [keq_kD, c, decide_false, if_false, Bool.false_eq_true]
      exact .cons h ih
theorem KReps.snoc {v : V} {d : D} (hv : Rep K G v d) (k : Key) : ∀ {kvs : List (Key × V)} {ds : List (D × D)}, KReps K G kvs ds → KReps K G (kvs ++ [(k, v)]) (ds ++ [(kD k, d)])
  | _, _, .nil => .cons hv .nil
  | _, _, .cons h r => .cons h (KReps.snoc hv k r)
theorem KReps.put {v : V} {d : D} (hv : Rep K G v d) (k : Key) {kvs : List (Key × V)} {ds : List (D × D)} (r : KReps K G kvs ds) : KReps K G (putK kvs k v) (dput ds (kD k) d) := by
  unfold putK dput
  rw [r.any k]
  split
  · exact KReps.repl hv k r
  · exact KReps.snoc hv k r
theorem KReps.drop (k : Key) : ∀ {kvs : List (Key × V)} {ds : List (D × D)}, KReps K G kvs ds → KReps K G (dropK kvs k) (ddrop ds (kD k))
  | _, _, .nil => .nil
  | _, _, @KReps.cons _ _ j v d vs ds h r => by
    have ih := KReps.drop k r
    unfold dropK ddrop at ih ⊢
    by_cases c : j = k
    · subst c
      rw [List.filter_cons_of_neg (by simp), List.filter_cons_of_neg (by simp [keq_kD])]
      exact ih
    · rw [List.filter_cons_of_pos (by simp [c]), List.filter_cons_of_pos (by simp [keq_kD, c])]
      exact .cons h ih
theorem rep_key (k : Key) : Rep K G (kV k) (kD k) := by
  cases k with
  | inl i => exact .int i
  | inr x => exact .str x
theorem View.key {H : Hp} {v : V} {k : Key} (h : View K G H v (kD k)) : v = kV k := by
  cases k with
  | inl i => exact View.int h
  | inr x => exact View.str h
end
/-! ### == -/
def scalD : D → D → Bool
  | .none, .none => true | .none, .int _ => true | .int _, .none => true | .none, .bool _ => true | .bool _, .none => true | .none, .str _ => true | .str _, .none => true
  | .int _, .int _ => true | .bool _, .bool _ => true | .str _, .str _ => true
  | .int _, .str _ => true | .str _, .int _ => true | .bool _, .str _ => true | .str _, .bool _ => true
  | _, _ => false
def eqOk (x y : D) : Bool := scalD x y || (SeqAt.shaped x && SeqAt.shaped y)
def gEq (x y : D) : Option (Md × D) := if eqOk x y = true then some (.dat, .bool (PyData.eqv x y)) else none
def gNe (x y : D) : Option (Md × D) := if eqOk x y = true then some (.dat, .bool (!PyData.eqv x y)) else none
def hasDic : D → Bool
  | .dict _ => true
  | _ => false
mutual
theorem Rep.dp {K : PySem.W.Frag} {G H : Hp} (g : Good G H) : ∀ {v : V} {d : D}, Rep K G v d → d.canLay0 = true → Dp K H v d
  | _, _, .non, _ => .non
  | _, _, .bl b, _ => .bl b
  | _, _, .int i, _ => .int i
  | _, _, .str x, _ => .str x
  | _, _, .lst h r, c => .lst (.inl (g.rdl h)) (Reps.dp g r (by simpa [PyData.canLay0] using c))
  | _, _, .tup h r, c => .tup (.of (g.tup h)) (Reps.dp g r (by simpa [PyData.canLay0] using c))
  | _, _, .dic h r, c => by simp [PyData.canLay0] at c
  | _, _, .odd _ _ _ _ _ _, c => by simp [PyData.canLay0] at c
  | _, _, .stat h, c => .lst (by
      rcases h with h | h
      · rcases h with h | ⟨o, h⟩ <;> cases h
      · exact .inr h) (Reps.dp g (G := G) (Reps.ints _) (by simpa [PyData.canLay0] using c))
theorem Reps.dp {K : PySem.W.Frag} {G H : Hp} (g : Good G H) : ∀ {v : List V} {d : List D}, Reps K G v d → PyData.canLayAll0 d = true → DpAll K H v d
  | _, _, .nil, _ => .nil
  | _, _, .cons h r, c => by
    have c' := Bool.and_eq_true_iff.mp (by simpa [PyData.canLayAll0] using c)
    exact .cons (Rep.dp g h c'.1) (Reps.dp g r c'.2)
end
theorem View.dp {K : PySem.W.Frag} {G H : Hp} (g : Good G H) {v : V} {d : D} (h : View K G H v d) (c : d.canLay0 = true) : Dp K H v d := by
  rcases h with h | ⟨a, u, rfl, h, r⟩
  · exact h.dp g c
  · cases r with
    | lst r => exact .lst (.of h) (r.dp g (by simpa [PyData.canLay0] using c))
    | dic r => simp [PyData.canLay0] at c
section
variable {X : Cx} {ca : String → Addr} {W : WX}
theorem scal_view {K : PySem.W.Frag} {G H : Hp} {x y : V} {dx dy : D} (vx : View K G H x dx) (vy : View K G H y dy) (h : scalD dx dy = true) : scal x y = true ∧ decide (x = y) = PyData.eqv dx dy := by
  cases dx <;> cases dy <;> first
    | (cases h; done)
    | (first | cases vx.int | cases vx.str | cases vx.bl | cases vx.non) <;> (first | cases vy.int | cases vy.str | cases vy.bl | cases vy.non) <;> exact ⟨rfl, by rw [Bool.eq_iff_iff]; simp [PyData.eqv]⟩
theorem gEq_ok (hu : X.A.units + 64 < cLine) : OpR X (compareOp .Eq) (rD X.K gEq) := by
  intro pins s σ H x y v u Q I rx ry h
  obtain ⟨G, dx, dy, m, d, g, vx, vy, e, q⟩ := h
  unfold gEq at e
  split at e
  · rename_i hc
    cases e
    rcases Bool.or_eq_true_iff.mp hc with hc | hc
    · obtain ⟨h1, h2⟩ := scal_view vx vy hc
      exact op_eq pins s σ H x y v u Q I rx ry ⟨h1, by rw [h2]; exact rD_scalar g q (.bl _)⟩
    · obtain ⟨h1, h2⟩ := Bool.and_eq_true_iff.mp hc
      exact op_eqD hu pins s σ H x y v u Q I rx ry ⟨_, _, vx.dp g (SeqAt.canLay_of_shaped h1), vy.dp g (SeqAt.canLay_of_shaped h2), h1, h2, rD_scalar g q (.bl _)⟩
  · cases e
theorem gNe_ok (hu : X.A.units + 64 < cLine) : OpR X (compareOp .NotEq) (rD X.K gNe) := by
  intro pins s σ H x y v u Q I rx ry h
  obtain ⟨G, dx, dy, m, d, g, vx, vy, e, q⟩ := h
  unfold gNe at e
  split at e
  · rename_i hc
    cases e
    rcases Bool.or_eq_true_iff.mp hc with hc | hc
    · obtain ⟨h1, h2⟩ := scal_view vx vy hc
      exact op_ne pins s σ H x y v u Q I rx ry ⟨h1, by rw [h2]; exact rD_scalar g q (.bl _)⟩
    · obtain ⟨h1, h2⟩ := Bool.and_eq_true_iff.mp hc
      exact op_neD hu pins s σ H x y v u Q I rx ry ⟨_, _, vx.dp g (SeqAt.canLay_of_shaped h1), vy.dp g (SeqAt.canLay_of_shaped h2), h1, h2, rD_scalar g q (.bl _)⟩
  · cases e
/-! ### order of ints -/
def gI (p : Int → Int → Bool) : D → D → Option (Md × D)
  | .int i, .int j => some (.dat, .bool (p i j))
  | _, _ => none
def gLt := gI fun i j => decide (i < j)
def gLe := gI fun i j => decide (i ≤ j)
def gGt := gI fun i j => decide (j < i)
def gGe := gI fun i j => decide (j ≤ i)
theorem gI_ok {op : CmpOp} {p : Int → Int → Bool} (h : OpR X (compareOp op) (rI0 fun i j => .bl (p i j))) : OpR X (compareOp op) (rD X.K (gI p)) := by
  intro pins s σ H x y v u Q I rx ry hh
  obtain ⟨G, dx, dy, m, d, g, vx, vy, e, q⟩ := hh
  unfold gI at e
  split at e
  · cases e
    cases vx.int; cases vy.int
    exact h pins s σ H _ _ v u Q I rx ry ⟨_, _, rfl, rfl, rD_scalar g q (.bl _)⟩
  · cases e
theorem gLt_ok : OpR X (compareOp .Lt) (rD X.K gLt) := gI_ok op_lt
theorem gLe_ok : OpR X (compareOp .LtE) (rD X.K gLe) := gI_ok op_le
theorem gGt_ok : OpR X (compareOp .Gt) (rD X.K gGt) := gI_ok op_gt
theorem gGe_ok : OpR X (compareOp .GtE) (rD X.K gGe) := gI_ok op_ge
/-! ### is None -/
def isNon : D → Bool
  | .none => true
  | _ => false
def gIsN (x y : D) : Option (Md × D) := if isNon y = true then some (.dat, .bool (isNon x)) else none
def gNotN (x y : D) : Option (Md × D) := if isNon y = true then some (.dat, .bool (!isNon x)) else none
theorem isNon_view {K : PySem.W.Frag} {G H : Hp} {x : V} {d : D} (h : View K G H x d) : decide (x = .non) = isNon d := by
  rcases h with h | ⟨a, u, rfl, _, r⟩
  · cases h <;> simp [isNon]
  · cases r <;> simp [isNon]
theorem non_of {d : D} (h : isNon d = true) : d = .none := by cases d <;> first | rfl | cases h
theorem gIsN_ok : OpR X (compareOp .Is) (rD X.K gIsN) := by
  intro pins s σ H x y v u Q I rx ry h
  obtain ⟨G, dx, dy, m, d, g, vx, vy, e, q⟩ := h
  unfold gIsN at e
  split at e
  · rename_i hc
    cases e
    cases non_of hc
    cases vy.non
    exact op_isN pins s σ H x _ v u Q I rx ry ⟨rfl, by rw [isNon_view vx]; exact rD_scalar g q (.bl _)⟩
  · cases e
theorem gNotN_ok : OpR X (compareOp .IsNot) (rD X.K gNotN) := by
  intro pins s σ H x y v u Q I rx ry h
  obtain ⟨G, dx, dy, m, d, g, vx, vy, e, q⟩ := h
  unfold gNotN at e
  split at e
  · rename_i hc
    cases e
    cases non_of hc
    cases vy.non
    exact op_notN pins s σ H x _ v u Q I rx ry ⟨rfl, by rw [isNon_view vx]; exact rD_scalar g q (.bl _)⟩
  · cases e
/-! ### in -/
def flatD : D → Bool
  | .none => true | .bool _ => true | .int _ => true | .str _ => true
  | _ => false
def inD (x : D) (ds : List D) : Bool := ds.any fun y => PyData.eqv y x
def mIn : D → D → Option Bool
  | x, .dict ds => if isKey x = true ∧ okK ds = true then some (dget ds x).isSome else none
  | x, .list ds => if flatD x && ds.all flatD then some (inD x ds) else none
  | x, .tuple ds => if flatD x && ds.all flatD then some (inD x ds) else none
  | .str c, .str z => match c.cps.toList with
    | [n] => some (decide (n ∈ z.cps.toList))
    | _ => none
  | _, _ => none
def gIn (x y : D) : Option (Md × D) := (mIn x y).map fun b => (.dat, .bool b)
def gNotIn (x y : D) : Option (Md × D) := (mIn x y).map fun b => (.dat, .bool (!b))
theorem flat_view {K : PySem.W.Frag} {G H : Hp} {x : V} {d : D} (h : View K G H x d) (f : flatD d = true) : flatV x = true ∧ Rep K G x d := by
  rcases h with h | ⟨a, u, rfl, _, r⟩
  · refine ⟨?_, h⟩
    cases h <;> first | rfl | cases f
  · cases r <;> cases f
theorem eqV_rep {K : PySem.W.Frag} {G : Hp} {x y : V} {dx dy : D} (hx : Rep K G x dx) (hy : Rep K G y dy) (fx : flatD dx = true) (fy : flatD dy = true) : eqV x y = PyData.eqv dx dy := by
  cases hx <;> first | (cases fx; done) | (cases hy <;> first | (cases fy; done) | rfl)
theorem inV_reps {K : PySem.W.Frag} {G : Hp} {x : V} {dx : D} (hx : Rep K G x dx) (fx : flatD dx = true) : ∀ {xs : List V} {ds : List D}, Reps K G xs ds → ds.all flatD = true → xs.all flatV = true ∧ inV x xs = inD dx ds
  | _, _, .nil, _ => ⟨rfl, rfl⟩
  | _, _, .cons h r, f => by
    rw [List.all_cons, Bool.and_eq_true_iff] at f
    obtain ⟨i1, i2⟩ := inV_reps hx fx r f.2
    refine ⟨by rw [List.all_cons, i1, (flat_view (H := fun _ => none) (.inl h) f.1).1]; rfl, ?_⟩
    unfold inV inD at i2 ⊢
    rw [List.any_cons, List.any_cons, i2, eqV_rep h hx f.1 fx]
theorem mIn_run (neg : Bool) {op : CmpOp} (hop : (neg = false ∧ op = .In) ∨ (neg = true ∧ op = .NotIn)) (hu : X.A.units + 1 < cLine)
    (pins : List (Addr × Obj)) (s : Shared) (σ : St) (H G : Hp) (x y : V) (v u : Value) (Q : VK) (I : Inv X pins σ H s) (rx : RelV x v) (ry : RelV y u) (dx dy : D) (g : Good G H) (vx : View X.K G H x dx) (vy : View X.K G H y dy)
    (b : Bool) (e : mIn dx dy = some b) (q : Q (.bl (if neg then !b else b)) H) : wpAny (model X.prog X.w) X.A (compareOp op v u) (EP X pins σ Q) X.xe s := by
  unfold mIn at e
  split at e
  · -- a dict
    split at e
    · rename_i hk
      cases e
      obtain ⟨k, rfl⟩ := key_of_isKey hk.1
      obtain ⟨a, kvs, rfl, rd, r⟩ := vy.dic g hk.2
      cases vx.key
      obtain rfl : u = Value.ref a := ry
      have z := r.val k
      have eo := z.isSome
      have dg : DGet H a (kV k) (valV kvs k) := .inl ⟨kvs, k, rd, rfl, rfl⟩
      rcases hop with ⟨rfl, rfl⟩ | ⟨rfl, rfl⟩
      · exact d_in hu I dg rx fun s' I' => ⟨.bl (valV kvs k).isSome, H, I', rfl, by rw [eo]; exact q⟩
      · exact d_notIn hu I dg rx fun s' I' => ⟨.bl (!(valV kvs k).isSome), H, I', rfl, by rw [eo]; exact q⟩
    · cases e
  · split at e
    · rename_i hk
      cases e
      obtain ⟨h1, h2⟩ := Bool.and_eq_true_iff.mp hk
      obtain ⟨a, xs, rfl, hs, r⟩ := vy.lst g
      obtain ⟨f1, f2⟩ := flat_view vx h1
      obtain ⟨f3, f4⟩ := inV_reps f2 h1 r h2
      rcases hop with ⟨rfl, rfl⟩ | ⟨rfl, rfl⟩
      · exact op_in_seq pins s σ H x _ v u Q I rx ry ⟨a, xs, rfl, .inl hs, f1, f3, by rw [f4]; exact q⟩
      · exact op_notIn_seq pins s σ H x _ v u Q I rx ry ⟨a, xs, rfl, .inl hs, f1, f3, by rw [f4]; exact q⟩
    · cases e
  · split at e
    · rename_i hk
      cases e
      obtain ⟨h1, h2⟩ := Bool.and_eq_true_iff.mp hk
      obtain ⟨a, xs, rfl, hs, r⟩ := vy.tup g
      obtain ⟨f1, f2⟩ := flat_view vx h1
      obtain ⟨f3, f4⟩ := inV_reps f2 h1 r h2
      rcases hop with ⟨rfl, rfl⟩ | ⟨rfl, rfl⟩
      · exact op_in_seq pins s σ H x _ v u Q I rx ry ⟨a, xs, rfl, .inr (.of hs), f1, f3, by rw [f4]; exact q⟩
      · exact op_notIn_seq pins s σ H x _ v u Q I rx ry ⟨a, xs, rfl, .inr (.of hs), f1, f3, by rw [f4]; exact q⟩
    · cases e
  · split at e
    · rename_i c z l n hc
      cases e
      cases vx.str; cases vy.str
      have ec : c = ⟨#[n]⟩ := by
        obtain ⟨cps⟩ := c
        have h2 : cps = #[n] := Array.toList_inj.mp hc
        rw [h2]
      subst ec
      rcases hop with ⟨rfl, rfl⟩ | ⟨rfl, rfl⟩
      · exact op_in_sign pins s σ H _ _ v u Q I rx ry ⟨n, z, rfl, rfl, q⟩
      · exact op_notIn_sign pins s σ H _ _ v u Q I rx ry ⟨n, z, rfl, rfl, q⟩
    · cases e
  · cases e
theorem gIn_ok (hu : X.A.units + 1 < cLine) : OpR X (compareOp .In) (rD X.K gIn) := by
  intro pins s σ H x y v u Q I rx ry h
  obtain ⟨G, dx, dy, m, d, g, vx, vy, e, q⟩ := h
  unfold gIn at e
  cases e1 : mIn dx dy with
  | none => rw [e1] at e; cases e
  | some b =>
    rw [e1] at e
    cases e
    exact mIn_run false (.inl ⟨rfl, rfl⟩) hu pins s σ H G x y v u Q I rx ry dx dy g vx vy b e1 (rD_scalar g q (.bl _))
theorem gNotIn_ok (hu : X.A.units + 1 < cLine) : OpR X (compareOp .NotIn) (rD X.K gNotIn) := by
  intro pins s σ H x y v u Q I rx ry h
  obtain ⟨G, dx, dy, m, d, g, vx, vy, e, q⟩ := h
  unfold gNotIn at e
  cases e1 : mIn dx dy with
  | none => rw [e1] at e; cases e
  | some b =>
    rw [e1] at e
    cases e
    exact mIn_run true (.inr ⟨rfl, rfl⟩) hu pins s σ H G x y v u Q I rx ry dx dy g vx vy b e1 (rD_scalar g q (.bl _))
end
end Vb
/-! Vd: and, or, not, tests, a if t else b; arguments; calls of defs and of built-ins. -/
namespace Vb
open PySem PySem.Spec PyProof.Rows L2
/-! ### and, or, not -/
def Out.ifB (o : Out) (t e : Out) : Out := o.bind fun _ d => match d with
  | .bool true => t
  | .bool false => e
  | _ => .stuck
def oB (b : Bool) : Out := .ok .dat (.bool b)
def eAnd (fa fb : Ev) : Ev := fun Γ => (fa Γ).ifB (fb Γ) (oB false)
def eOr (fa fb : Ev) : Ev := fun Γ => (fa Γ).ifB (oB true) (fb Γ)
def eNot (fa : Ev) : Ev := fun Γ => (fa Γ).ifB (oB false) (oB true)
def eIte (fc fa fb : Ev) : Ev := fun Γ => (fc Γ).ifB (fa Γ) (fb Γ)
section
variable {K : PySem.W.Frag} {ca : String → Addr} {W : WX} {σ : St} {G H : Hp} {Q : VK}
theorem Fin.ifB {o t e : Out} (h : Fin K ca W σ G H Q (o.ifB t e)) : Fin K ca W σ G H (fun v H1 => ∃ b G1, v = .bl b ∧ Stp G H G1 H1 ∧ Fin K ca W σ G H Q (if b = true then t else e)) o := by
  refine h.bind.imp fun v G' H' s ⟨m, d, G1, e1, s1, r, n, q⟩ => ?_
  cases d with
  | bool b =>
    cases (r.view).bl
    refine ⟨b, G1, rfl, s1, ?_⟩
    cases b <;> exact q
  | _ => exact False.elim q
theorem Fin.b {b : Bool} (g : Good G H) (h : Fin K ca W σ G H Q (oB b)) : Q (.bl b) H := h _ G H (.refl g) (.bl b) trivial
end
section
variable {X : Cx} {ca : String → Addr} {W : WX} {a b c : Expr} {fa fb fc : Ev} {pos : Pos} {rest : List Expr}
theorem snd_one {op : BoolOp} (h : Snd X ca W a fa) : Snd X ca W (.BoolOp op [a] pos) fa := fun Γ => pe_one (h Γ)
theorem snd_and (ha : Snd X ca W a fa) (hb : Snd X ca W (.BoolOp .And (b :: rest) pos) fb) : Snd X ca W (.BoolOp .And (a :: b :: rest) pos) (eAnd fa fb) := fun Γ =>
  pimp (pe_and (ha Γ) (hb Γ)) fun σ H Q ⟨G, o, q⟩ => ⟨G, o, q.ifB.imp fun v G1 H1 s ⟨c, G2, ev, s2, q2⟩ => by
    refine ⟨c, ev, ?_⟩
    cases c with
    | true => exact ⟨G2, o.mono s2, q2.later s2⟩
    | false => exact (q2.later s2).b s2.good⟩
theorem snd_or (ha : Snd X ca W a fa) (hb : Snd X ca W (.BoolOp .Or (b :: rest) pos) fb) : Snd X ca W (.BoolOp .Or (a :: b :: rest) pos) (eOr fa fb) := fun Γ =>
  pimp (pe_or (ha Γ) (hb Γ)) fun σ H Q ⟨G, o, q⟩ => ⟨G, o, q.ifB.imp fun v G1 H1 s ⟨c, G2, ev, s2, q2⟩ => by
    refine ⟨c, ev, ?_⟩
    cases c with
    | true => exact (q2.later s2).b s2.good
    | false => exact ⟨G2, o.mono s2, q2.later s2⟩⟩
theorem snd_not (ha : Snd X ca W a fa) : Snd X ca W (.UnaryOp .Not a pos) (eNot fa) := fun Γ =>
  pimp (pe_not (ha Γ)) fun σ H Q ⟨G, o, q⟩ => ⟨G, o, q.ifB.imp fun v G1 H1 s ⟨c, G2, ev, s2, q2⟩ => by
    refine ⟨c, ev, ?_⟩
    cases c <;> exact (q2.later s2).b s2.good⟩
/-! ### tests -/
def FinT (ca : String → Addr) (K : PySem.W.Frag) (W : WX) (σ : St) (G H : Hp) (Q : Bool → Hp → Prop) : Out → Prop
  | .ok _ (.bool b) => ∀ G' H', Stp G H G' H' → Q b H'
  | .err x => ∀ c dx G' H', Stp G H G' H' → XRep K ca G' H' x c dx → W c dx σ H'
  | _ => False
def tT (K : PySem.W.Frag) (ca : String → Addr) (W : WX) (f : Ev) (Γ : Env) : TT := fun σ H Q => ∃ G, StOk K G H Γ σ ∧ FinT ca K W σ G H Q (f Γ)
def SndT (X : Cx) (ca : String → Addr) (W : WX) (e : Expr) (f : Ev) : Prop := ∀ Γ, PT X e (tT X.K ca W f Γ)
def SndW (X : Cx) (ca : String → Addr) (W : WX) (e : Expr) (f : Ev) : Prop := ∀ Γ, PW X e (tT X.K ca W f Γ)
theorem ptimp {X : Cx} {e : Expr} {t t' : TT} (h : PT X e t) (i : ∀ σ H Q, t' σ H Q → t σ H Q) : PT X e t' := ⟨fun p s σ H Q I q => h.run p s σ H Q I (i _ _ _ q)⟩
theorem pwimp {X : Cx} {e : Expr} {t t' : TT} (h : PW X e t) (i : ∀ σ H Q, t' σ H Q → t σ H Q) : PW X e t' := ⟨fun w p s σ H Q I q => h.run w p s σ H Q I (i _ _ _ q)⟩
theorem FinT.later {K : PySem.W.Frag} {ca : String → Addr} {W : WX} {σ : St} {G H G1 H1 : Hp} {Q : Bool → Hp → Prop} {o : Out} (s : Stp G H G1 H1) (h : FinT ca K W σ G H Q o) : FinT ca K W σ G1 H1 Q o := by
  cases o with
  | ok m d =>
    cases d with
    | bool b => exact fun G' H' s' => h G' H' (s.trans s')
    | _ => exact h
  | err x => exact fun c dx G' H' s' r => h c dx G' H' (s.trans s') r
  | stuck => exact h
theorem FinT.imp {K : PySem.W.Frag} {ca : String → Addr} {W : WX} {σ : St} {G H : Hp} {Q Q' : Bool → Hp → Prop} {o : Out} (h : FinT ca K W σ G H Q o) (i : ∀ b G' H', Stp G H G' H' → Q b H' → Q' b H') : FinT ca K W σ G H Q' o := by
  cases o with
  | ok m d =>
    cases d with
    | bool b => exact fun G' H' s' => i b G' H' s' (h G' H' s')
    | _ => exact h
  | err x => exact h
  | stuck => exact h
theorem FinT.ifB {K : PySem.W.Frag} {ca : String → Addr} {W : WX} {σ : St} {G H : Hp} {Q : Bool → Hp → Prop} {o t e : Out} (h : FinT ca K W σ G H Q (o.ifB t e)) : FinT ca K W σ G H (fun b H1 => ∃ G1, Stp G H G1 H1 ∧ FinT ca K W σ G H Q (if b = true then t else e)) o := by
  cases o with
  | ok m d =>
    cases d with
    | bool b => exact fun G' H' s' => ⟨G', s', by cases b <;> exact h⟩
    | _ => exact h
  | err x => exact h
  | stuck => exact h
theorem sndt_val (h : Snd X ca W a fa) (he : ∀ whole, isTrue a X.env whole = (do let v ← whole; standAt a.pos; holding [v] (truthy v))) : SndT X ca W a fa := fun Γ =>
  ptimp (pt_val (h Γ) he) fun σ H Q ⟨G, o, q⟩ => ⟨G, o, by
    cases e : fa Γ with
    | stuck => rw [e] at q; exact q
    | err x => rw [e] at q; exact q
    | ok m d =>
      rw [e] at q
      cases d with
      | bool b => exact fun v G' H' s r n => ⟨b, r.view.bl, q G' H' s⟩
      | _ => exact False.elim q⟩
theorem sndw_t (h : SndW X ca W a fa) : SndT X ca W a fa := fun Γ => (h Γ).pt
theorem sndw_and1 (ha : SndT X ca W a fa) : SndW X ca W (.BoolOp .And [a] pos) fa := fun Γ => pw_and1 (ha Γ)
theorem sndw_or1 (ha : SndT X ca W a fa) : SndW X ca W (.BoolOp .Or [a] pos) fa := fun Γ => pw_or1 (ha Γ)
theorem sndw_and (ha : SndT X ca W a fa) (hb : SndW X ca W (.BoolOp .And (b :: rest) pos) fb) : SndW X ca W (.BoolOp .And (a :: b :: rest) pos) (eAnd fa fb) := fun Γ =>
  pwimp (pw_and (ha Γ) (hb Γ)) fun σ H Q ⟨G, o, q⟩ => ⟨G, o, q.ifB.imp fun c G1 H1 s ⟨G2, s2, q2⟩ => by
    cases c with
    | true => exact ⟨G2, o.mono s2, q2.later s2⟩
    | false => exact (q2.later s2) G2 H1 (.refl s2.good)⟩
theorem sndw_or (ha : SndT X ca W a fa) (hb : SndW X ca W (.BoolOp .Or (b :: rest) pos) fb) : SndW X ca W (.BoolOp .Or (a :: b :: rest) pos) (eOr fa fb) := fun Γ =>
  pwimp (pw_or (ha Γ) (hb Γ)) fun σ H Q ⟨G, o, q⟩ => ⟨G, o, q.ifB.imp fun c G1 H1 s ⟨G2, s2, q2⟩ => by
    cases c with
    | true => exact (q2.later s2) G2 H1 (.refl s2.good)
    | false => exact ⟨G2, o.mono s2, q2.later s2⟩⟩
theorem sndt_not (ha : SndT X ca W a fa) : SndT X ca W (.UnaryOp .Not a pos) (eNot fa) := fun Γ =>
  ptimp (pt_not (ha Γ)) fun σ H Q ⟨G, o, q⟩ => ⟨G, o, q.ifB.imp fun c G1 H1 s ⟨G2, s2, q2⟩ => by
    cases c <;> exact (q2.later s2) G2 H1 (.refl s2.good)⟩
theorem snd_ite (hc : SndT X ca W c fc) (ha : Snd X ca W a fa) (hb : Snd X ca W b fb) : Snd X ca W (.IfExp c a b pos) (eIte fc fa fb) := fun Γ =>
  pimp (pe_ifExp (hc Γ) (ha Γ) (hb Γ)) fun σ H Q ⟨G, o, q⟩ => by
    refine ⟨G, o, ?_⟩
    unfold eIte at q
    cases e : fc Γ with
    | stuck => rw [e] at q; exact q
    | err x => rw [e] at q; exact q
    | ok m d =>
      rw [e] at q
      cases d with
      | bool b =>
        intro G' H' s
        cases b with
        | true => exact ⟨G', o.mono s, Fin.later s q⟩
        | false => exact ⟨G', o.mono s, Fin.later s q⟩
      | _ => exact False.elim q
end
/-! ### chains a op b op c -/
def eChain (g g' : D → D → Option (Md × D)) (fa fb fc : Ev) : Ev := fun Γ => (fa Γ).bind fun _ x => (fb Γ).bind fun _ y => match g x y with
  | some (_, .bool true) => (fc Γ).bind fun _ z => out2 g' y z
  | some (_, .bool false) => oB false
  | _ => .stuck
section
variable {X : Cx} {ca : String → Addr} {W : WX} {a b c : Expr} {fa fb fc : Ev} {pos : Pos}
theorem tE_chain {g g' : D → D → Option (Md × D)} {Γ : Env} {σ : St} {H : Hp} {Q : VK} (h : tE X.K ca W (eChain g g' fa fb fc) Γ σ H Q) : tChain (rD X.K g) (rD X.K g') (tE X.K ca W fa Γ) (tE X.K ca W fb Γ) (tE X.K ca W fc Γ) σ H Q := by
  obtain ⟨G, o, q⟩ := h
  refine ⟨G, o, q.bind.imp fun v G1 H1 s1 ⟨m, d, G2, e1, s2, r1, n1, q1⟩ => ?_⟩
  refine ⟨G2, o.mono s2, (q1.later s2).bind.imp fun w G3 H3 s3 ⟨m', d', G4, e2, s4, r2, n2, q2⟩ => ?_⟩
  have q3 := q2.later s4
  cases e : g d d' with
  | none => rw [e] at q3; exact False.elim q3
  | some p =>
    obtain ⟨m3, d3⟩ := p
    rw [e] at q3
    cases d3 with
    | bool k =>
      refine ⟨G4, d, d', m3, .bool k, s4.good, r1.view.mono s4, r2.view, e, fun z G' H' s r n => ⟨k, r.view.bl, ?_⟩⟩
      cases k with
      | false => exact (Fin.later s q3).b s.good
      | true =>
        refine ⟨G', o.mono (s2.trans (s4.trans s)), (Fin.later s q3).bind.imp fun z' G5 H5 s5 ⟨m5, d5, G6, e5, s6, r5, n5, q5⟩ => ?_⟩
        have q6 := q5.later s6
        unfold out2 at q6
        cases e6 : g' d' d5 with
        | none => rw [e6] at q6; exact False.elim q6
        | some p =>
          obtain ⟨m7, d7⟩ := p
          rw [e6] at q6
          exact ⟨G6, d', d5, m7, d7, s6.good, r2.view.mono (s.trans s6), r5.view, e6, q6⟩
    | _ => exact False.elim q3
theorem snd_chain {g g' : D → D → Option (Md × D)} {op op' : CmpOp} (ho : OpR X (compareOp op) (rD X.K g)) (ho' : OpR X (compareOp op') (rD X.K g')) (ha : Snd X ca W a fa) (hb : Snd X ca W b fb) (hc : Snd X ca W c fc)
    (hm : lastMarks [op, op'] [b, c] = false) : Snd X ca W (.Compare a [op, op'] [b, c] pos) (eChain g g' fa fb fc) := fun Γ => pimp (pe_chain ho ho' (ha Γ) (hb Γ) (hc Γ) hm) fun σ H Q h => tE_chain h
end
/-! ### arguments -/
inductive OutA where
  | ok (l : List (Md × D))
  | err (x : Exn)
  | stuck
abbrev EvA := Env → OutA
inductive RVals (K : PySem.W.Frag) (G H : Hp) : List V → List (Md × D) → Prop
  | nil : RVals K G H [] []
  | cons {v : V} {m : Md} {d : D} {vs : List V} {ds : List (Md × D)} : RVal K G H v d m → RVals K G H vs ds → RVals K G H (v :: vs) ((m, d) :: ds)
theorem RVals.mono {K : PySem.W.Frag} {G H G' H' : Hp} (s : Stp G H G' H') : ∀ {vs : List V} {ds : List (Md × D)}, RVals K G H vs ds → RVals K G' H' vs ds
  | _, _, .nil => .nil
  | _, _, .cons h r => .cons (h.mono s) (r.mono s)
inductive Views (K : PySem.W.Frag) (G H : Hp) : List V → List D → Prop
  | nil : Views K G H [] []
  | cons {v : V} {d : D} {vs : List V} {ds : List D} : View K G H v d → Views K G H vs ds → Views K G H (v :: vs) (d :: ds)
theorem RVals.views {K : PySem.W.Frag} {G H : Hp} : ∀ {vs : List V} {ds : List (Md × D)}, RVals K G H vs ds → Views K G H vs (ds.map (·.2))
  | _, _, .nil => .nil
  | _, _, .cons h r => .cons h.view r.views
def allDat (l : List (Md × D)) : Bool := l.all fun p => match p.1 with
  | .dat => true
  | _ => false
theorem RVals.reps {K : PySem.W.Frag} {G H : Hp} : ∀ {vs : List V} {ds : List (Md × D)}, RVals K G H vs ds → allDat ds = true → Reps K G vs (ds.map (·.2))
  | _, _, .nil, _ => .nil
  | _, _, @RVals.cons _ _ _ _ m _ _ _ h r, a => by
    unfold allDat at a
    rw [List.all_cons, Bool.and_eq_true_iff] at a
    cases m with
    | dat => exact .cons h (r.reps a.2)
    | own => cases a.1
    | bor => cases a.1
def FinA (ca : String → Addr) (K : PySem.W.Frag) (W : WX) (σ : St) (G H : Hp) (Q : List V → Hp → Prop) : OutA → Prop
  | .ok l => ∀ vs G' H', Stp G H G' H' → RVals K G' H' vs l → Q vs H'
  | .err x => ∀ c dx G' H', Stp G H G' H' → XRep K ca G' H' x c dx → W c dx σ H'
  | .stuck => False
def tA (K : PySem.W.Frag) (ca : String → Addr) (W : WX) (f : EvA) (Γ : Env) : TA := fun σ H Q => ∃ G, StOk K G H Γ σ ∧ FinA ca K W σ G H Q (f Γ)
def SndA (X : Cx) (ca : String → Addr) (W : WX) (es : List Expr) (f : EvA) : Prop := ∀ Γ, PA X es (tA X.K ca W f Γ)
theorem paimp {X : Cx} {e : List Expr} {t t' : TA} (h : PA X e t) (i : ∀ σ H Q, t' σ H Q → t σ H Q) : PA X e t' := ⟨fun ps p s σ H Q I q => h.run ps p s σ H Q I (i _ _ _ q)⟩
def aNil : EvA := fun _ => .ok []
def aCons (f : Ev) (r : EvA) : EvA := fun Γ => match f Γ with
  | .ok m d => (match r Γ with
    | .ok l => .ok ((m, d) :: l)
    | .err x => .err x
    | .stuck => .stuck)
  | .err x => .err x
  | .stuck => .stuck
section
variable {X : Cx} {ca : String → Addr} {W : WX}
theorem FinA.later {K : PySem.W.Frag} {σ : St} {G H G1 H1 : Hp} {Q : List V → Hp → Prop} {o : OutA} (s : Stp G H G1 H1) (h : FinA ca K W σ G H Q o) : FinA ca K W σ G1 H1 Q o := by
  cases o with
  | ok l => exact fun vs G' H' s' r => h vs G' H' (s.trans s') r
  | err x => exact fun c dx G' H' s' r => h c dx G' H' (s.trans s') r
  | stuck => exact h
theorem snda_nil : SndA X ca W [] aNil := fun Γ => paimp pa_nil fun σ H Q ⟨G, o, q⟩ => q [] G H (.refl o.good) .nil
theorem snda_cons {e : Expr} {es : List Expr} {f : Ev} {r : EvA} (h : Snd X ca W e f) (hr : SndA X ca W es r) (hs : starEach (e :: es) X.env = (false, eval e X.env) :: starEach es X.env) : SndA X ca W (e :: es) (aCons f r) := fun Γ =>
  paimp (pa_cons (h Γ) (hr Γ) hs) fun σ H Q ⟨G, o, q⟩ => by
    refine ⟨G, o, ?_⟩
    unfold aCons at q
    cases e1 : f Γ with
    | stuck => rw [e1] at q; exact q
    | err x => rw [e1] at q; exact q
    | ok m d =>
      rw [e1] at q
      intro v G' H' s rv n
      refine ⟨G', o.mono s, ?_⟩
      have q2 : FinA ca X.K W σ G' H' Q _ := FinA.later s q
      revert q2
      cases e2 : r Γ with
      | stuck => exact fun q2 => q2
      | err x => exact fun q2 => q2
      | ok l => exact fun q2 vs G2 H2 s2 rvs => q2 (v :: vs) G2 H2 s2 (.cons (rv.mono s2) rvs)
/-! ### calls of built-ins, by values -/
def rC (K : PySem.W.Frag) (g : List D → Option (Md × D)) : List V → Hp → VK → Prop := fun xs H Q => ∃ G ds m d, Good G H ∧ Views K G H xs ds ∧ g ds = some (m, d) ∧ ∀ v G' H', Stp G H G' H' → RVal K G' H' v d m → New1 H v m → Q v H'
def outL (g : List D → Option (Md × D)) (l : List (Md × D)) : Out := match g (l.map (·.2)) with
  | some (m, d) => .ok m d
  | none => .stuck
def eFn (g : List D → Option (Md × D)) (as : EvA) : Ev := fun Γ => match as Γ with
  | .ok l => outL g l
  | .err x => .err x
  | .stuck => .stuck
theorem tE_fn {g : List D → Option (Md × D)} {as : EvA} {Γ : Env} {σ : St} {H : Hp} {Q : VK} (h : tE X.K ca W (eFn g as) Γ σ H Q) : tCB (rC X.K g) (tA X.K ca W as Γ) σ H Q := by
  obtain ⟨G, o, q⟩ := h
  refine ⟨G, o, ?_⟩
  unfold eFn at q
  cases e : as Γ with
  | stuck => rw [e] at q; exact q
  | err x => rw [e] at q; exact q
  | ok l =>
    rw [e] at q
    intro vs G' H' s r
    have q2 : Fin X.K ca W σ G' H' Q (outL g l) := Fin.later s q
    unfold outL at q2
    cases e2 : g (l.map (·.2)) with
    | none => rw [e2] at q2; exact False.elim q2
    | some p =>
      obtain ⟨m, d⟩ := p
      rw [e2] at q2
      exact ⟨G', l.map (·.2), m, d, s.good, r.views, e2, q2⟩
variable {x : Str} {p pos : Pos} {e : Expr} {es : List Expr} {as : EvA} {id T : String} {g : List D → Option (Md × D)}
theorem snd_callB (hc : CallR X (.builtin id) (rC X.K g)) (hg : Gl X x) (hm : X.mg x = none) (hv : bootBuiltins x = some (.builtin id)) (ha : SndA X ca W (e :: es) as) (hn : x ≠ "__name__" := by decide) (hdb : (x == ("__debug__" : Str)) = false := by decide)
    (he : starEach (e :: es) X.env = (false, eval e X.env) :: starEach es X.env := by rfl) (hpl : (backTo pos (starEach es X.env)).any (·.1) = false := by rfl) : Snd X ca W (.Call (.Name x p) (e :: es) [] pos) (eFn g as) := fun Γ =>
  pimp (pe_callB hc hg hm hv (ha Γ) hn hdb he hpl) fun σ H Q h => tE_fn h
theorem snd_callTy (hc : CallR X (.type T) (rC X.K g)) (hg : Gl X x) (hm : X.mg x = none) (hv : bootBuiltins x = some (.type T)) (ha : SndA X ca W (e :: es) as) (hn : x ≠ "__name__" := by decide) (hdb : (x == ("__debug__" : Str)) = false := by decide)
    (he : starEach (e :: es) X.env = (false, eval e X.env) :: starEach es X.env := by rfl) (hpl : (backTo pos (starEach es X.env)).any (·.1) = false := by rfl) : Snd X ca W (.Call (.Name x p) (e :: es) [] pos) (eFn g as) := fun Γ =>
  pimp (pe_callTy hc hg hm hv (ha Γ) hn hdb he hpl) fun σ H Q h => tE_fn h
theorem rC_scalar {K : PySem.W.Frag} {G H : Hp} {Q : VK} {d : D} {v : V} (g : Good G H) (h : ∀ v G' H', Stp G H G' H' → RVal K G' H' v d .dat → New1 H v .dat → Q v H') (r : Rep K G v d) : Q v H := h v G H (.refl g) r trivial
/-- a new object of one's own is laid -/
theorem Stp.lay {G H : Hp} (g : Good G H) {a : Addr} {u : HO} (n : H a = none) : Stp G H G (upd H a u) :=
  ⟨fun b w e => by rw [upd_ne (fun z => by rw [z, n] at e; cases e)]; exact e, .refl, fun _ h => .inl h, g.keep fun b w e => by rw [upd_ne (fun z => by rw [z, n] at e; cases e)]; exact e⟩
theorem new_own {K : PySem.W.Frag} {G H : Hp} {Q : VK} {d : D} {u : HO} (g : Good G H) (h : ∀ v G' H', Stp G H G' H' → RVal K G' H' v d .own → New1 H v .own → Q v H') (r : Obj1 K G u d) {a : Addr} (n : H a = none) : Q (.ref a) (upd H a u) :=
  h _ G _ (Stp.lay g n) ⟨a, u, rfl, upd_same, g.none_of n, r⟩ fun b e => by cases e; exact n
/-- a new tuple is laid -/
theorem new_tup {K : PySem.W.Frag} {G H : Hp} {Q : VK} {xs : List V} {ds : List D} (g : Good G H) (h : ∀ v G' H', Stp G H G' H' → RVal K G' H' v (.tuple ds) .dat → New1 H v .dat → Q v H') (r : Reps K G xs ds) {a : Addr} (n : H a = none) : Q (.ref a) (upd H a (.tup xs)) := by
  have sg : Sub G (upd G a (.tup xs)) := fun b w e => by rw [upd_ne (fun z => by rw [z, g.none_of n] at e; cases e)]; exact e
  have sh : Sub H (upd H a (.tup xs)) := fun b w e => by rw [upd_ne (fun z => by rw [z, n] at e; cases e)]; exact e
  refine h _ (upd G a (.tup xs)) _ ⟨sh, sg, fun b e => ?_, fun b w e => ?_⟩ (.tup upd_same (r.mono sg)) trivial
  · by_cases hb : b = a
    · subst hb; exact .inr n
    · rw [upd_ne hb] at e; exact .inl e
  · by_cases hb : b = a
    · subst hb; rw [upd_same] at e; cases e; exact upd_same
    · rw [upd_ne hb] at e; exact (g b w e).keep fun v q => sh b v q
end
/-! ### calls of defs -/
structure RoomV (k : Nat) (A : Around) : Prop where
  room : Room k A
  gd : A.guards = some []
/-- a def's promise: it does what F says of data -/
def spD (K : PySem.W.Frag) (ca : String → Addr) (n : Nat) (F : List D → Out) : Sp := fun vs H Q E => vs.length = n ∧ ∃ G ds, Good G H ∧ Reps K G vs ds ∧ (∀ d, F ds ≠ .ok .bor d) ∧ Fin K ca (fun c dx _ H' => E c dx H') [] G H Q (F ds)
structure FnV (P : Program) (w : World) (K : PySem.W.Frag) (mg : Str → Option Value) (base : Heap) (k : Nat) (f : Addr) (fd : FuncData) (ps : List Str) (sp : Sp) : Prop where
  len : ∀ vs H Q E, sp vs H Q E → vs.length = ps.length
  run : ∀ (A : Around) (outer : List PySem.Env) (s : Shared) (H : Hp) (args : Args) (us : List Value) (vs : List V) (Q : VK) (E : XK), RoomV k A → Env0 P w K mg base A outer s H → BindsTo s fd args (ps.zip us) → Vals vs us → sp vs H Q E →
    codeAny (model P w) A (.call (.ref f) args) (CR (L2.CX P w) outer P w H s Q E) s
theorem FnV.mono {P : Program} {w : World} {K : PySem.W.Frag} {mg : Str → Option Value} {base : Heap} {j k : Nat} {f : Addr} {fd : FuncData} {ps : List Str} {sp : Sp} (F : FnV P w K mg base j f fd ps sp) (h : j ≤ k) : FnV P w K mg base k f fd ps sp :=
  ⟨F.len, fun A outer s H args us vs Q E hr => F.run A outer s H args us vs Q E ⟨hr.room.mono h, hr.gd⟩⟩
/-- what a call lets out is taken -/
def Lets (X : Cx) (W : WX) : Prop := ∀ σ, PassesAt (L2.CX X.prog X.w) X σ (WE W σ)
theorem lets_of {X : Cx} {W : WX} (tk : Takes X W) : Lets X W := fun σ => passAt tk σ
/-- a def of the module that may be called -/
structure Callee (X : Cx) (ca : String → Addr) (k : Nat) (x : Str) (n : Nat) (F : List D → Out) : Prop where
  ex : ∃ (f : Addr) (fd : FuncData) (ps : List Str), FnV X.prog X.w X.K X.mg X.base k f fd ps (spD X.K ca n F) ∧ X.mg x = some (.ref f) ∧ PySem.W.keepIn X.K (.ref f) = true ∧ Binds X.K fd ps []
def eCall (n : Nat) (F : List D → Out) (as : EvA) : Ev := fun Γ => match as Γ with
  | .ok l => if allDat l = true ∧ l.length = n then (match F (l.map (·.2)) with
    | .ok .bor _ => .stuck
    | o => o) else .stuck
  | .err x => .err x
  | .stuck => .stuck
section
variable {X : Cx} {ca : String → Addr} {W : WX} {x : Str} {p pos : Pos} {e : Expr} {es : List Expr} {as : EvA}
theorem run_fnV {k : Nat} {f : Addr} {fd : FuncData} {ps : List Str} {sp : Sp} {E : XK} {pins : List (Addr × Obj)} {σ : St} {H : Hp} {s : Shared} {Q : VK} {us : List Value} {vs : List V} (F : FnV X.prog X.w X.K X.mg X.base k f fd ps sp) (hr : RoomV k X.A) (hb : Binds X.K fd ps []) (hx : PassesAt (L2.CX X.prog X.w) X σ E)
    (I : Inv X pins σ H s) (r : Vals vs us) (h : sp vs H Q E) : wpAny (model X.prog X.w) X.A (call (.ref f) us) (EP X pins σ Q) X.xe s := by
  have hl : us.length = ps.length := by rw [← r.length]; exact F.len _ _ _ _ h
  have b := hb s us I.kIn (by rw [List.append_nil]; exact hl)
  rw [List.append_nil] at b
  refine wpAny_call (codeAny_mono (F.run X.A X.stack s H ⟨us, []⟩ us vs Q E hr I.env0 b r h) fun r s' hq => ?_)
  cases r with
  | error e => exact hx pins H s e s' I hq
  | ok fl =>
    cases fl with
    | ret u => exact I.after hq
    | next => exact False.elim hq
    | brk => exact False.elim hq
    | cont => exact False.elim hq
theorem pe_callV {k : Nat} {f : Addr} {fd : FuncData} {ps : List Str} {sp : Sp} {t : TA} (F : FnV X.prog X.w X.K X.mg X.base k f fd ps sp) (hr : RoomV k X.A) (hg : Gl X x) (hm : X.mg x = some (.ref f)) (hk : PySem.W.keepIn X.K (.ref f) = true) (hb : Binds X.K fd ps []) (tk : Lets X W)
    (ha : PA X (e :: es) t) (hdb : (x == ("__debug__" : Str)) = false := by decide) (he : starEach (e :: es) X.env = (false, eval e X.env) :: starEach es X.env := by rfl) (hpl : (backTo pos (starEach es X.env)).any (·.1) = false := by rfl) :
    PE X (.Call (.Name x p) (e :: es) [] pos) (tCallS sp (WE W) t) := by
  refine ⟨fun pins s σ H Q I h => ?_⟩
  refine wpAny_Call_Name_kw (ld_glob I hg hm ?_ hdb)
  refine PySem.W.callWith_K (h₀ := X.base) I.ok.mod.kin hk (thn (ha.run pos pins s σ H _ I h) fun us s1 ⟨vs, H1, I1, r, q⟩ => ⟨I1.kIn, ?_⟩) he hpl
  exact run_fnV F hr hb (tk σ) I1 r q
theorem snd_call {k n : Nat} {F : List D → Out} (C : Callee X ca k x n F) (hr : RoomV k X.A) (tk : Lets X W) (hg : Gl X x) (ha : SndA X ca W (e :: es) as) (hdb : (x == ("__debug__" : Str)) = false := by decide)
    (he : starEach (e :: es) X.env = (false, eval e X.env) :: starEach es X.env := by rfl) (hpl : (backTo pos (starEach es X.env)).any (·.1) = false := by rfl) : Snd X ca W (.Call (.Name x p) (e :: es) [] pos) (eCall n F as) := fun Γ => by
  obtain ⟨f, fd, ps, Fv, hm, hk, hb⟩ := C.ex
  refine pimp (pe_callV Fv hr hg hm hk hb tk (ha Γ) hdb he hpl) fun σ H Q ⟨G, o, q⟩ => ⟨G, o, ?_⟩
  unfold eCall at q
  cases e : as Γ with
  | stuck => rw [e] at q; exact q
  | err x => rw [e] at q; exact q
  | ok l =>
    rw [e] at q
    by_cases c : allDat l = true ∧ l.length = n
    · intro vs G' H' s r
      have q2 : Fin X.K ca W σ G' H' Q _ := Fin.later s q
      dsimp only at q2
      rw [if_pos c] at q2
      have rr := r.reps c.1
      refine ⟨by rw [rr.length, List.length_map]; exact c.2, G', _, s.good, rr, ?_, ?_⟩
      · intro d z
        rw [z] at q2
        exact q2
      · revert q2
        cases z : F (l.map (·.2)) with
        | stuck => exact fun q2 => q2
        | err x => exact fun q2 => q2
        | ok m d =>
          cases m with
          | bor => exact fun q2 => False.elim q2
          | dat => exact fun q2 => q2
          | own => exact fun q2 => q2
    · dsimp only at q
      rw [if_neg c] at q
      exact False.elim q
end
end Vb
/-! Ve: displays, subscripts, slices. -/
namespace Vb
open PySem PySem.Spec PyProof.Rows L2
/-! ### displays -/
def eTup (as : EvA) : Ev := fun Γ => match as Γ with
  | .ok l => if allDat l = true ∧ l.length ≤ 1000 then .ok .dat (.tuple (l.map (·.2))) else .stuck
  | .err x => .err x
  | .stuck => .stuck
def eLst (as : EvA) : Ev := fun Γ => match as Γ with
  | .ok l => if allDat l = true ∧ l.length ≤ 1000 then .ok .own (.list (l.map (·.2))) else .stuck
  | .err x => .err x
  | .stuck => .stuck
theorem line1000 {n : Nat} (h : n ≤ 1000) : n ≤ sizeLine := Nat.le_of_lt (small1000 h)
section
variable {X : Cx} {ca : String → Addr} {W : WX} {es : List Expr} {as : EvA} {pos : Pos}
theorem snd_tup {x1 : Nat} (h : SndA X ca W es as) : Snd X ca W (.Tuple es x1 pos) (eTup as) := fun Γ => pimp (pe_tup (h Γ)) fun σ H Q ⟨G, o, q⟩ => ⟨G, o, by
  unfold eTup at q
  cases e : as Γ with
  | stuck => rw [e] at q; exact q
  | err x => rw [e] at q; exact q
  | ok l =>
    rw [e] at q
    dsimp only at q
    by_cases c : allDat l = true ∧ l.length ≤ 1000
    · rw [if_pos c] at q
      intro vs G' H' s r
      have rr := r.reps c.1
      refine ⟨by rw [rr.length, List.length_map]; exact line1000 c.2, fun p np => ?_⟩
      exact new_tup s.good (Fin.later s q) rr np
    · rw [if_neg c] at q; exact False.elim q⟩
theorem snd_lst (h : SndA X ca W es as) : Snd X ca W (.List es pos) (eLst as) := fun Γ => pimp (pe_lst (h Γ)) fun σ H Q ⟨G, o, q⟩ => ⟨G, o, by
  unfold eLst at q
  cases e : as Γ with
  | stuck => rw [e] at q; exact q
  | err x => rw [e] at q; exact q
  | ok l =>
    rw [e] at q
    dsimp only at q
    by_cases c : allDat l = true ∧ l.length ≤ 1000
    · rw [if_pos c] at q
      intro vs G' H' s r
      have rr := r.reps c.1
      refine ⟨by rw [rr.length, List.length_map]; exact line1000 c.2, fun p np => ?_⟩
      exact new_own s.good (Fin.later s q) (.lst rr) np
    · rw [if_neg c] at q; exact False.elim q⟩
end
def dmerge (ds more : List (D × D)) : List (D × D) := more.foldl (fun acc p => dput acc p.1 p.2) ds
theorem KReps.merge {K : PySem.W.Frag} {G : Hp} : ∀ {more : List (Key × V)} {dm : List (D × D)} {kvs : List (Key × V)} {ds : List (D × D)}, KReps K G kvs ds → KReps K G more dm → KReps K G (mergeK kvs more) (dmerge ds dm)
  | _, _, _, _, r, .nil => r
  | _, _, kvs, ds, r, @KReps.cons _ _ k v d vs dm' h rm => by
    have z := KReps.merge (KReps.put h k r) rm
    exact z
inductive OutP where
  | ok (l : List (D × D))
  | err (x : Exn)
  | stuck
abbrev EvP := Env → OutP
def pNil : EvP := fun _ => .ok []
def pCons (k v : Ev) (r : EvP) : EvP := fun Γ => match k Γ with
  | .ok .dat dk => (match v Γ with
    | .ok .dat dv => (match r Γ with
      | .ok l => if isKey dk = true then .ok ((dk, dv) :: l) else .stuck
      | .err x => .err x
      | .stuck => .stuck)
    | .err x => .err x
    | _ => .stuck)
  | .err x => .err x
  | _ => .stuck
def eDisp (ps : EvP) : Ev := fun Γ => match ps Γ with
  | .ok l => if l.length ≤ 15 then .ok .own (.dict (dmerge [] l)) else .stuck
  | .err x => .err x
  | .stuck => .stuck
def FinP (ca : String → Addr) (K : PySem.W.Frag) (W : WX) (σ : St) (G H : Hp) (Q : List (V × V) → Hp → Prop) : OutP → Prop
  | .ok l => ∀ (kvs : List (Key × V)) G' H', Stp G H G' H' → KReps K G' kvs l → Q (kvs.map fun kv => (kV kv.1, kv.2)) H'
  | .err x => ∀ c dx G' H', Stp G H G' H' → XRep K ca G' H' x c dx → W c dx σ H'
  | .stuck => False
theorem FinP.later {K : PySem.W.Frag} {ca : String → Addr} {W : WX} {σ : St} {G H G1 H1 : Hp} {Q : List (V × V) → Hp → Prop} {o : OutP} (s : Stp G H G1 H1) (h : FinP ca K W σ G H Q o) : FinP ca K W σ G1 H1 Q o := by
  cases o with
  | ok l => exact fun vs G' H' s' r => h vs G' H' (s.trans s') r
  | err x => exact fun c dx G' H' s' r => h c dx G' H' (s.trans s') r
  | stuck => exact h
/-- the pairs of a display -/
inductive SndP (X : Cx) (ca : String → Addr) (W : WX) (pos : Pos) : List (Option Expr) → List Expr → EvP → Prop
  | nil : SndP X ca W pos [] [] pNil
  | cons {k v : Expr} {ks : List (Option Expr)} {vs : List Expr} {fk fv : Ev} {r : EvP} : Snd X ca W k fk → Snd X ca W v fv → SndP X ca W pos ks vs r → SndP X ca W pos (some k :: ks) (v :: vs) (pCons fk fv r)
section
variable {X : Cx} {ca : String → Addr} {W : WX} {pos : Pos} {keys : List (Option Expr)} {values : List Expr} {ps : EvP}
theorem sndp_run (h : SndP X ca W pos keys values ps) (Γ : Env) : ∃ trs, PPs X pos keys values trs ∧ ∀ (σ : St) (G H : Hp) (Q : List (V × V) → Hp → Prop), StOk X.K G H Γ σ → FinP ca X.K W σ G H Q (ps Γ) → tPairs trs σ H Q := by
  induction h with
  | nil => exact ⟨[], pps_nil, fun σ G H Q o q => q [] G H (.refl o.good) .nil⟩
  | @cons k v ks vs fk fv r hk hv hr ih =>
    obtain ⟨trs, h1, h2⟩ := ih
    refine ⟨_, pps_cons (hk Γ) (hv Γ) h1, fun σ G H Q o q => ⟨G, o, ?_⟩⟩
    unfold pCons at q
    revert q
    cases e1 : fk Γ with
    | stuck => exact fun q => q
    | err x => exact fun q => q
    | ok m dk =>
      cases m with
      | own => exact fun q => False.elim q
      | bor => exact fun q => False.elim q
      | dat =>
        intro q x G1 H1 s1 rx _
        refine ⟨G1, o.mono s1, ?_⟩
        have q1 : FinP ca X.K W σ G1 H1 Q _ := FinP.later s1 q
        revert q1
        cases e2 : fv Γ with
        | stuck => exact fun q => q
        | err x => exact fun q => q
        | ok m dv =>
          cases m with
          | own => exact fun q => False.elim q
          | bor => exact fun q => False.elim q
          | dat =>
            intro q1 y G2 H2 s2 ry _
            refine h2 σ G2 H2 _ (o.mono (s1.trans s2)) ?_
            have q2 : FinP ca X.K W σ G2 H2 Q _ := FinP.later s2 q1
            revert q2
            cases e3 : r Γ with
            | stuck => exact fun q => q
            | err x => exact fun q => q
            | ok l =>
              intro q2
              dsimp only at q2
              by_cases c : isKey dk = true
              · rw [if_pos c] at q2
                intro kvs G3 H3 s3 rs
                obtain ⟨key, rfl⟩ := key_of_isKey c
                have ex : x = kV key := View.key (G := G1) (H := H1) (.inl rx)
                subst ex
                exact q2 ((key, y) :: kvs) G3 H3 s3 (.cons (Rep.mono s3.sub ry) rs)
              · rw [if_neg c] at q2; exact False.elim q2
theorem snd_disp (h : SndP X ca W pos keys values ps) (hall : keys.all (·.isSome) = true) (hl : keys.length = values.length) (h0 : keys ≠ []) (h15 : keys.length ≤ 15) : Snd X ca W (.Dict keys values pos) (eDisp ps) := fun Γ => by
  obtain ⟨trs, h1, h2⟩ := sndp_run h Γ
  refine pimp (pe_disp h1 hall hl h0 h15) fun σ H Q ⟨G, o, q⟩ p np => h2 σ G _ _ (o.mono (Stp.lay o.good np)) ?_
  unfold eDisp at q
  have gp := o.good.none_of np
  have sl : Stp G H G (upd H p (.dK [])) := Stp.lay o.good np
  revert q
  cases e : ps Γ with
  | stuck => exact fun q => q
  | err x => exact fun q c dx G' H' s' r => q c dx G' H' (sl.trans s') r
  | ok l =>
    intro q
    dsimp only at q
    by_cases c : l.length ≤ 15
    · rw [if_pos c] at q
      intro kvs G' H' s r
      refine ⟨s.keep _ _ upd_same, kvs, rfl, by rw [r.length]; exact c, ?_⟩
      have gp' : G' p = none := s.noneG gp (by rw [upd_same]; simp)
      refine q _ G' _ ⟨fun b w e => ?_, s.sub, fun b e => ?_, fun b w e => ?_⟩ ⟨p, _, rfl, upd_same, gp', .dic (KReps.merge .nil r)⟩ fun b e => by cases e; exact np
      · have hb : b ≠ p := fun z => by rw [z, np] at e; cases e
        rw [upd_ne hb]; exact s.keep b w (by rw [upd_ne hb]; exact e)
      · rcases s.new b e with z | z
        · exact .inl z
        · by_cases hb : b = p
          · subst hb; exact .inr np
          · rw [upd_ne hb] at z; exact .inr z
      · have hb : b ≠ p := fun z => by rw [z, gp'] at e; cases e
        exact (s.good b w e).keep fun v q => by rw [upd_ne hb]; exact q
    · rw [if_neg c] at q; exact False.elim q
def eNewD : Ev := fun _ => .ok .own (.dict [])
theorem snd_newD : Snd X ca W (.Dict [] [] pos) eNewD := fun Γ => pimp pe_dnewK fun σ H Q ⟨G, o, q⟩ p np => new_own o.good q (.dic .nil) np
end
/-! ### subscripts -/
def gIx : D → D → Option (Md × D)
  | .list ds, .int i => (atI ds i).map fun d => (.dat, d)
  | .tuple ds, .int i => (atI ds i).map fun d => (.dat, d)
  | .str z, .int i => if z.length ≤ sizeLine then (atI z.cps.toList i).map fun c => (.dat, .str ⟨#[c]⟩) else none
  | .dict ds, k => if isKey k = true then (dget ds k).map fun d => (.dat, d) else none
  | _, _ => none
theorem Reps.atI {K : PySem.W.Frag} {G : Hp} {vs : List V} {ds : List D} (r : Reps K G vs ds) {i : Int} {d : D} (e : L2.atI ds i = some d) : ∃ v, L2.atI vs i = some v ∧ Rep K G v d := by
  unfold L2.atI at e ⊢
  rw [r.length]
  cases h : ixN ds.length i with
  | none => rw [h] at e; cases e
  | some j =>
    rw [h] at e
    obtain ⟨v, h1, h2⟩ := r.get (i := j) e
    exact ⟨v, h1, h2⟩
theorem subTail {prog : Program} {w : World} {A : Around} {E : Value → Shared → Prop} {s : Shared} {value slice : Expr} {o i : Value} {T id : String} {Q : Value → Shared → Prop} (hT : s.TypeIs o T)
    (hl : typeLookup (.type T) "__getitem__" = pure (some (.builtin id))) (h : wpAny (model prog w) A (getItem o i) Q E s)
    (hs : subscripted slice false o i = operate [o, i] (getItem o i)) : wpAny (model prog w) A (subscriptTail value slice o i) Q E s := by
  unfold subscriptTail
  refine wpAny_bind ?_
  rw [getitemInPython_of_ne hT.not_modules]
  refine wpAny_bind (wpAny_specialOf hT hl ?_)
  have fin : wpAny (model prog w) A (subscripted slice false o i) (fun r s₃ => wpAny (model prog w) A (letTemporaryGo value o r >>= fun _ => pure r) Q E s₃) E s := by
    rw [hs]
    exact wpAny_operating (wpAny_mono h (fun r s₃ h₃ => wpAny_bind (wpAny_letTemporaryGo (wpAny_pure h₃))) fun _ _ x => x)
  first
    | exact wpAny_pure (wpAny_bind fin)
    | exact wpAny_bind (wpAny_pure (wpAny_bind fin))
    | exact wpAny_bind fin
section
variable {X : Cx}
/-- a dict in which a key is found has such keys -/
theorem View.dicG {K : PySem.W.Frag} {G H : Hp} {v : V} {ds : List (D × D)} {k d : D} (g : Good G H) (h : View K G H v (.dict ds)) (e : dget ds k = some d) : ∃ a kvs, v = .ref a ∧ Rd H a (.dK kvs) ∧ KReps K G kvs ds := by
  rcases h with h | ⟨a, u, e, h, r⟩
  · cases h with
    | dic h r => exact ⟨_, _, rfl, g.rdk h, r⟩
    | odd _ _ _ _ _ z => unfold dget at e; simp [keq_odd z] at e
  · cases r with
    | dic r => exact ⟨a, _, e, .of h, r⟩
theorem gIx_ok (hu : X.A.units + 1 < cLine) : IxR X (rD X.K gIx) := by
  intro value slice pins s σ H x y v u Q I rx ry h hs
  obtain ⟨G, dx, dy, m, d, g, vx, vy, e, q⟩ := h
  unfold gIx at e
  split at e
  · rename_i ds i
    obtain ⟨d', e1, e2⟩ := Option.map_eq_some_iff.mp e
    cases e2
    obtain ⟨a, xs, rfl, hq, r⟩ := vx.lst g
    cases vy.int
    obtain ⟨w, h1, h2⟩ := r.atI e1
    exact ix_list value slice pins s σ H _ _ v u Q I rx ry ⟨a, xs, i, w, rfl, rfl, hq, h1, rD_scalar g q h2⟩ hs
  · rename_i ds i
    obtain ⟨d', e1, e2⟩ := Option.map_eq_some_iff.mp e
    cases e2
    obtain ⟨a, xs, rfl, hq, r⟩ := vx.tup g
    cases vy.int
    obtain ⟨w, h1, h2⟩ := r.atI e1
    exact ix_tup value slice pins s σ H _ _ v u Q I rx ry ⟨a, xs, i, w, rfl, rfl, .of hq, h1, rD_scalar g q h2⟩ hs
  · rename_i z i
    split at e
    · rename_i hl
      obtain ⟨c, e1, e2⟩ := Option.map_eq_some_iff.mp e
      cases e2
      cases vx.str; cases vy.int
      exact ix_str value slice pins s σ H _ _ v u Q I rx ry ⟨z, i, c, rfl, rfl, hl, e1, rD_scalar g q (.str _)⟩ hs
    · cases e
  · rename_i ds
    split at e
    · rename_i hk
      obtain ⟨d', e1, e2⟩ := Option.map_eq_some_iff.mp e
      cases e2
      obtain ⟨k, rfl⟩ := key_of_isKey hk
      obtain ⟨a, kvs, rfl, rd, r⟩ := vx.dicG g e1
      cases vy.key
      obtain rfl : v = Value.ref a := rx
      have z := r.val k
      rw [e1] at z
      cases ev : valV kvs k with
      | none => rw [ev] at z; exact z.elim
      | some w =>
        rw [ev] at z
        have dg : DGet H a (kV k) (some w) := .inl ⟨kvs, k, rd, rfl, ev.symm⟩
        exact subTail (dict_typeIs I dg) PySem.F.slot_dict_getitem.lookup
          (d_getItem (Q := fun r s' => EP X pins σ Q r s') hu I dg ry fun w' s' I' rw' => ⟨w, H, I', rw', rD_scalar g q z⟩) hs
    · cases e
  · cases e
end
end Vb
/-! Vs: statements. -/
namespace Vb
open PySem PySem.Spec PyProof.Rows L2
/-- statements have run: all but the objects of one's own is kept -/
structure SStp (G H : Hp) (O : Addr → Prop) (G' H' : Hp) (O' : Addr → Prop) : Prop where
  keep : ∀ a u, H a = some u → ¬ O a → H' a = some u
  there : ∀ a, H a ≠ none → H' a ≠ none
  sub : Sub G G'
  new : ∀ a, G' a ≠ none → G a ≠ none ∨ O a ∨ H a = none
  own : ∀ a, O' a → O a ∨ H a = none
theorem SStp.refl {G H : Hp} {O : Addr → Prop} : SStp G H O G H O := ⟨fun _ _ e _ => e, fun _ h => h, .refl, fun _ h => .inl h, fun _ h => .inl h⟩
theorem SStp.trans {G H G1 H1 G2 H2 : Hp} {O O1 O2 : Addr → Prop} (a : SStp G H O G1 H1 O1) (b : SStp G1 H1 O1 G2 H2 O2) : SStp G H O G2 H2 O2 := by
  have nn : ∀ x, H1 x = none → H x = none := fun x h => by
    cases q : H x with
    | none => rfl
    | some u => exact absurd h (a.there x (by rw [q]; simp))
  refine ⟨fun x u e n => ?_, fun x h => b.there x (a.there x h), a.sub.trans b.sub, fun x h => ?_, fun x h => ?_⟩
  · refine b.keep x u (a.keep x u e n) fun z => ?_
    rcases a.own x z with w | w
    · exact n w
    · rw [w] at e; cases e
  · rcases b.new x h with z | z | z
    · exact a.new x z
    · rcases a.own x z with w | w
      · exact .inr (.inl w)
      · exact .inr (.inr w)
    · exact .inr (.inr (nn x z))
  · rcases b.own x h with z | z
    · exact a.own x z
    · exact .inr (nn x z)
theorem Stp.s {G H G' H' : Hp} {O : Addr → Prop} (s : Stp G H G' H') : SStp G H O G' H' O := by
  refine ⟨fun a u e _ => s.keep a u e, fun a h z => ?_, s.sub, fun a h => (s.new a h).elim .inl fun z => .inr (.inr z), fun _ h => .inl h⟩
  cases q : H a with
  | none => exact h q
  | some u => rw [s.keep a u q] at z; cases z
inductive SOut where
  | nx (Γ : Env)
  | ret (m : Md) (d : D)
  | err (x : Exn)
  | stuck
abbrev Ss := Env → SOut
/-- what is wanted behind statements; O₀: the objects of one's own ahead of them -/
def FinS (K : PySem.W.Frag) (ca : String → Addr) (W : WX) (G H : Hp) (O : Addr → Prop) (D : Ends) : SOut → Prop
  | .nx Γ' => ∀ σ' G' H', SStp G H O G' H' (Own Γ' σ') → StOk K G' H' Γ' σ' → D.nx σ' H'
  | .ret m d => m ≠ .bor ∧ ∀ v G' H' O', SStp G H O G' H' O' → Good G' H' → RVal K G' H' v d m → (m = .own → ∀ a, v = .ref a → O a ∨ H a = none) → D.rt v H'
  | .err x => ∀ c dx σ' G' H' O', SStp G H O G' H' O' → Good G' H' → XRep K ca G' H' x c dx → W c dx σ' H'
  | .stuck => False
def tS (K : PySem.W.Frag) (ca : String → Addr) (W : WX) (f : Ss) (Γ : Env) : TS := fun D σ H => ∃ G, StOk K G H Γ σ ∧ FinS K ca W G H (Own Γ σ) D (f Γ)
def SndS (X : Cx) (ca : String → Addr) (W : WX) (st : Stmt) (f : Ss) : Prop := ∀ Γ, PS X st (tS X.K ca W f Γ)
def SndB (X : Cx) (ca : String → Addr) (W : WX) (st : List Stmt) (f : Ss) : Prop := ∀ Γ, PSs X st (tS X.K ca W f Γ)
theorem psimp {X : Cx} {e : Stmt} {t t' : TS} (h : PS X e t) (i : ∀ D σ H, t' D σ H → t D σ H) : PS X e t' := ⟨fun p s σ H D I q => h.run p s σ H D I (i _ _ _ q)⟩
theorem pssimp {X : Cx} {e : List Stmt} {t t' : TS} (h : PSs X e t) (i : ∀ D σ H, t' D σ H → t D σ H) : PSs X e t' := ⟨fun p s σ H D I q => h.run p s σ H D I (i _ _ _ q)⟩
theorem FinS.later {K : PySem.W.Frag} {ca : String → Addr} {W : WX} {G H G1 H1 : Hp} {O O1 : Addr → Prop} {D : Ends} {o : SOut} (s : SStp G H O G1 H1 O1) (h : FinS K ca W G H O D o) : FinS K ca W G1 H1 O1 D o := by
  have nn : ∀ x, H1 x = none → H x = none := fun x h => by
    cases q : H x with
    | none => rfl
    | some u => exact absurd h (s.there x (by rw [q]; simp))
  cases o with
  | nx Γ' => exact fun σ' G' H' s' o' => h σ' G' H' (s.trans s') o'
  | ret m d => exact ⟨h.1, fun v G' H' O' s' g r n => h.2 v G' H' O' (s.trans s') g r fun e a ea => (n e a ea).elim (fun z => s.own a z) fun z => .inr (nn a z)⟩
  | err x => exact fun c dx σ' G' H' O' s' g r => h c dx σ' G' H' O' (s.trans s') g r
  | stuck => exact h
/-! ### blocks -/
def sNil : Ss := fun Γ => .nx Γ
def sSeq (f g : Ss) : Ss := fun Γ => match f Γ with
  | .nx Γ' => g Γ'
  | o => o
section
variable {X : Cx} {ca : String → Addr} {W : WX} {st : Stmt} {rest : List Stmt} {f g : Ss} {pos : Pos}
theorem sndb_nil : SndB X ca W [] sNil := fun Γ => pssimp pss_nil fun D σ H ⟨G, o, q⟩ => q σ G H .refl o
theorem sndb_cons (h1 : SndS X ca W st f) (h2 : SndB X ca W rest g) : SndB X ca W (st :: rest) (sSeq f g) := fun Γ => by
  -- the second part's context is the first one's outcome
  cases e : f Γ with
  | nx Γ' =>
    refine pssimp (pss_cons (h1 Γ) (h2 Γ')) fun D σ H ⟨G, o, q⟩ => ⟨G, o, ?_⟩
    unfold sSeq at q
    rw [e] at q ⊢
    exact fun σ' G' H' s' o' => ⟨G', o', FinS.later s' q⟩
  | ret m d =>
    refine pssimp (pss_cons (h1 Γ) (h2 Γ)) fun D σ H ⟨G, o, q⟩ => ⟨G, o, ?_⟩
    unfold sSeq at q
    rw [e] at q ⊢
    exact q
  | err x =>
    refine pssimp (pss_cons (h1 Γ) (h2 Γ)) fun D σ H ⟨G, o, q⟩ => ⟨G, o, ?_⟩
    unfold sSeq at q
    rw [e] at q ⊢
    exact q
  | stuck =>
    refine pssimp (pss_cons (h1 Γ) (h2 Γ)) fun D σ H ⟨G, o, q⟩ => ?_
    unfold sSeq at q
    rw [e] at q
    exact False.elim q
theorem sndb_one (h1 : SndS X ca W st f) : SndB X ca W [st] f := fun Γ => pss_one (h1 Γ)
end
/-! ### an expression's outcome as a statement's -/
def Out.toS (o : Out) (k : Md → D → SOut) : SOut := match o with
  | .ok m d => k m d
  | .err x => .err x
  | .stuck => .stuck
section
variable {K : PySem.W.Frag} {ca : String → Addr} {W : WX} {σ : St} {G H : Hp} {O : Addr → Prop} {D : Ends}
theorem FinS.toS {o : Out} {k : Md → PyData → SOut} {Γ : Env} (ok : StOk K G H Γ σ) (h : FinS K ca W G H (Own Γ σ) D (o.toS k)) : Fin K ca W σ G H (fun v H1 => ∃ m d G1, Stp G H G1 H1 ∧ RVal K G1 H1 v d m ∧ New1 H v m ∧ FinS K ca W G H (Own Γ σ) D (k m d)) o := by
  cases o with
  | ok m d => exact fun v G' H' s r n => ⟨m, d, G', s, r, n, h⟩
  | err x => exact fun c dx G' H' s r => h c dx σ G' H' _ s.s s.good r
  | stuck => exact h
end
def sRet (f : Ev) : Ss := fun Γ => (f Γ).toS fun m d => match m with
  | .bor => .stuck
  | m => .ret m d
def sRetN : Ss := fun _ => .ret .dat .none
/-- return x, x a name: what stands there goes out -/
def sRetV (i : Nat) : Ss := fun Γ => match Γ[i]? with
  | some (.dat d) => .ret .dat d
  | some (.own d) => .ret .own d
  | _ => .stuck
def sDrop (f : Ev) : Ss := fun Γ => (f Γ).toS fun _ _ => .nx Γ
def sAsg (i : Nat) (f : Ev) : Ss := fun Γ => (f Γ).toS fun m d => match m with
  | .dat => .nx (Γ.set i (.dat d))
  | .own => .nx (Γ.set i (.own d))
  | .bor => .stuck
section
variable {X : Cx} {ca : String → Addr} {W : WX} {e : Expr} {f : Ev} {pos : Pos}
theorem snds_ret (h : Snd X ca W e f) : SndS X ca W (.Return (some e) pos) (sRet f) := fun Γ => psimp (ps_ret (h Γ)) fun D σ H ⟨G, o, q⟩ => ⟨G, o, (FinS.toS o q).imp fun v G1 H1 s1 ⟨m, d, G2, s2, r, n, q2⟩ => by
  cases m with
  | bor => exact False.elim q2
  | dat => exact q2.2 v G2 H1 _ s2.s s2.good r (fun z => by cases z)
  | own => exact q2.2 v G2 H1 _ s2.s s2.good r (fun _ a ea => .inr (n a ea))⟩
theorem snds_retN : SndS X ca W (.Return none pos) sRetN := fun Γ => psimp ps_retN fun D σ H ⟨G, o, q⟩ => q.2 .non G H _ .refl o.good .non (fun z => by cases z)
theorem snds_retV {i : Nat} {x : Str} {p : Pos} (hN : X.N[i]? = some x) (hv : Vis X.env.scope x) (hd : (x == ("__debug__" : Str)) = false := by decide) (hcd : (x == ("__classdict__" : Str)) = false := by decide) : SndS X ca W (.Return (some (.Name x p)) pos) (sRetV i) := fun Γ =>
  psimp (ps_ret (pe_var hN hv hd hcd)) fun D σ H ⟨G, o, q⟩ => by
    unfold sRetV at q
    cases e : Γ[i]? with
    | none => rw [e] at q; exact False.elim q
    | some sv =>
      rw [e] at q
      have s := o.slot i sv e
      cases sv with
      | un => exact False.elim q
      | dat d =>
        obtain ⟨v, e1, r⟩ := s
        exact ⟨v, e1, q.2 v G H _ .refl o.good r (fun z => by cases z)⟩
      | own d =>
        obtain ⟨a, u, e1, hh, hg, r⟩ := s
        exact ⟨.ref a, e1, q.2 _ G H _ .refl o.good ⟨a, u, rfl, hh, hg, r⟩ fun _ b eb => by cases eb; exact .inl ⟨i, d, e, e1⟩⟩
theorem snds_drop (h : Snd X ca W e f) (hs : swapsWith e none pos.line X.env = pure false := by rfl) : SndS X ca W (.Expr e pos) (sDrop f) := fun Γ => psimp (ps_expr (h Γ) hs) fun D σ H ⟨G, o, q⟩ => ⟨G, o, (FinS.toS o q).imp fun v G1 H1 s1 ⟨m, d, G2, s2, r, n, q2⟩ => q2 σ G2 H1 s2.s (o.mono s2)⟩
theorem set_get {α : Type} {l : List α} {i j : Nat} {x y : α} (h : (l.set i x)[j]? = some y) : (i = j ∧ x = y ∧ j < l.length) ∨ (i ≠ j ∧ l[j]? = some y) := by
  by_cases e : i = j
  · subst e
    by_cases hl : i < l.length
    · rw [List.getElem?_set_self hl] at h
      exact .inl ⟨rfl, Option.some.inj h, hl⟩
    · rw [List.getElem?_eq_none (by simpa using hl)] at h; cases h
  · rw [List.getElem?_set_ne e] at h
    exact .inr ⟨e, h⟩
/-- a slot is stored -/
theorem StOk.store {K : PySem.W.Frag} {G H G' H' : Hp} {Γ : Env} {σ : St} {i : Nat} {v : V} {d : PyData} {m : Md} (o : StOk K G H Γ σ) (s : Stp G H G' H') (r : RVal K G' H' v d m) (n : New1 H v m) {sv : SV} (hm : (m = .dat ∧ sv = .dat d) ∨ (m = .own ∧ sv = .own d)) :
    StOk K G' H' (Γ.set i sv) (σ.set i (some v)) ∧ SStp G H (Own Γ σ) G' H' (Own (Γ.set i sv) (σ.set i (some v))) := by
  have o' := o.mono s
  refine ⟨⟨s.good, by rw [List.length_set, List.length_set]; exact o.len, fun j w e => ?_, fun j k d1 d2 a e1 e2 e3 e4 => ?_⟩, ⟨fun a u e _ => s.keep a u e, fun a h => (s.s (O := Own Γ σ)).there a h, s.sub, fun a h => (s.new a h).elim .inl fun z => .inr (.inr z), fun a ⟨j, d1, e1, e2⟩ => ?_⟩⟩
  · rcases set_get e with ⟨rfl, rfl, hl⟩ | ⟨hij, e⟩
    · rw [List.getElem?_set_self (by rw [← o.len]; exact hl)]
      rcases hm with ⟨rfl, rfl⟩ | ⟨rfl, rfl⟩
      · exact ⟨v, rfl, r⟩
      · obtain ⟨a, u, rfl, h1, h2, h3⟩ := r
        exact ⟨a, u, rfl, h1, h2, h3⟩
    · rw [List.getElem?_set_ne hij]
      exact o'.slot j w e
  · rcases set_get e1 with ⟨p1, z1, _⟩ | ⟨h1, f1⟩ <;> rcases set_get e2 with ⟨p2, z2, _⟩ | ⟨h2, f2⟩
    · exact p1.symm.trans p2
    · subst p1
      rcases set_get e3 with ⟨_, z3, _⟩ | ⟨h3, _⟩
      · rcases hm with ⟨_, ev⟩ | ⟨hm, ev⟩
        · rw [ev] at z1; cases z1
        · subst hm
          rw [List.getElem?_set_ne h2] at e4
          obtain ⟨b, u, e5, hb, _⟩ := o.slot k _ f2
          rw [e4] at e5
          cases e5
          cases z3
          rw [n _ rfl] at hb; cases hb
      · exact absurd rfl h3
    · subst p2
      rcases set_get e4 with ⟨_, z4, _⟩ | ⟨h4, _⟩
      · rcases hm with ⟨_, ev⟩ | ⟨hm, ev⟩
        · rw [ev] at z2; cases z2
        · subst hm
          rw [List.getElem?_set_ne h1] at e3
          obtain ⟨b, u, e5, hb, _⟩ := o.slot j _ f1
          rw [e3] at e5
          cases e5
          cases z4
          rw [n _ rfl] at hb; cases hb
      · exact absurd rfl h4
    · rw [List.getElem?_set_ne h1] at e3
      rw [List.getElem?_set_ne h2] at e4
      exact o.dist j k d1 d2 a f1 f2 e3 e4
  · rcases set_get e1 with ⟨rfl, z1, hl⟩ | ⟨h1, e1⟩
    · rcases hm with ⟨rfl, rfl⟩ | ⟨rfl, rfl⟩
      · cases z1
      · rw [List.getElem?_set_self (by rw [← o.len]; exact hl)] at e2
        cases e2
        exact .inr (n a rfl)
    · rw [List.getElem?_set_ne h1] at e2
      exact .inl ⟨j, d1, e1, e2⟩
theorem snds_asg {i : Nat} {x : Str} {px : Pos} (hN : X.N.Nodup) (hi : X.N[i]? = some x) (hx : Loc X.env.scope x) (h : Snd X ca W e f) (hs : swapsWith e (some (.Name x px)) pos.line X.env = pure false := by rfl) (hf : X.fn x = true ∨ X.env.scope.names.lookup x = some .local := by first | exact .inl rfl | exact .inr rfl | assumption) :
    SndS X ca W (.Assign [.Name x px] e pos) (sAsg i f) := fun Γ => psimp (ps_set hN hi hx (h Γ) hs hf) fun D σ H ⟨G, o, q⟩ => ⟨G, o, (FinS.toS o q).imp fun v G1 H1 s1 ⟨m, d, G2, s2, r, n, q2⟩ => by
  cases m with
  | bor => exact False.elim q2
  | dat =>
    obtain ⟨o2, s3⟩ := o.store (i := i) s2 r n (.inl ⟨rfl, rfl⟩)
    exact q2 _ G2 H1 s3 o2
  | own =>
    obtain ⟨o2, s3⟩ := o.store (i := i) s2 r n (.inr ⟨rfl, rfl⟩)
    exact q2 _ G2 H1 s3 o2⟩
/-! ### if -/
def sIf (c : Ev) (a b : Ss) : Ss := fun Γ => (c Γ).toS fun _ d => match d with
  | .bool true => a Γ
  | .bool false => b Γ
  | _ => .stuck
theorem snds_if {c : Expr} {fc : Ev} {a b : List Stmt} {fa fb : Ss} (hc : SndT X ca W c fc) (ha : SndB X ca W a fa) (hb : SndB X ca W b fb) : SndS X ca W (.If c a b pos) (sIf fc fa fb) := fun Γ =>
  psimp (ps_if (hc Γ) (ha Γ) (hb Γ)) fun D σ H ⟨G, o, q⟩ => ⟨G, o, by
    unfold sIf at q
    revert q
    cases e : fc Γ with
    | stuck => exact fun q => q
    | err x => exact fun q c dx G' H' s r => q c dx σ G' H' _ s.s s.good r
    | ok m d =>
      cases d with
      | bool k =>
        intro q G' H' s
        cases k with
        | true => exact ⟨G', o.mono s, FinS.later s.s q⟩
        | false => exact ⟨G', o.mono s, FinS.later s.s q⟩
      | _ => exact fun q => False.elim q⟩
end
end Vb
/-! Vf: built-ins: len, isinstance, all, dict, list, tuple, sorted, str, int, abs, min. -/
namespace Vb
open PySem PySem.Spec PyProof.Rows L2
section
variable {K : PySem.W.Frag} {G H : Hp}
theorem Views.one {vs : List V} {d : D} (h : Views K G H vs [d]) : ∃ v, vs = [v] ∧ View K G H v d := by
  cases h with
  | cons a r => cases r; exact ⟨_, rfl, a⟩
theorem Views.two {vs : List V} {d e : D} (h : Views K G H vs [d, e]) : ∃ v w, vs = [v, w] ∧ View K G H v d ∧ View K G H w e := by
  cases h with
  | cons a r => cases r with
    | cons b r => cases r; exact ⟨_, _, rfl, a, b⟩
end
/-! ### len -/
def gLen : List D → Option (Md × D)
  | [.list ds] => some (.dat, .int ds.length)
  | [.tuple ds] => some (.dat, .int ds.length)
  | [.dict ds] => if okK ds = true then some (.dat, .int ds.length) else none
  | [.str x] => if x.length ≤ sizeLine then some (.dat, .int x.length) else none
  | _ => none
section
variable {X : Cx}
theorem gLen_ok : CallR X (.builtin "len") (rC X.K gLen) := by
  intro pins s σ H xs us Q I r h
  obtain ⟨G, ds, m, d, g, vw, e, q⟩ := h
  unfold gLen at e
  split at e
  · cases e
    obtain ⟨v, rfl, vv⟩ := vw.one
    obtain ⟨a, ys, rfl, hq, rr⟩ := vv.lst g
    exact call_len_seq pins s σ H _ us Q I r ⟨a, ys, rfl, .inl hq, by rw [rr.length]; exact rC_scalar g q (.int _)⟩
  · cases e
    obtain ⟨v, rfl, vv⟩ := vw.one
    obtain ⟨a, ys, rfl, hq, rr⟩ := vv.tup g
    exact call_len_seq pins s σ H _ us Q I r ⟨a, ys, rfl, .inr (.of hq), by rw [rr.length]; exact rC_scalar g q (.int _)⟩
  · split at e
    · rename_i hk
      cases e
      obtain ⟨v, rfl, vv⟩ := vw.one
      obtain ⟨a, ys, rfl, hq, rr⟩ := vv.dic g hk
      obtain ⟨u, rfl, ru⟩ := vals1 r
      cases ru
      exact d_len I hq fun t s' I' => ⟨.int ys.length, H, I', ⟨t, rfl⟩, by rw [rr.length]; exact rC_scalar g q (.int _)⟩
    · cases e
  · split at e
    · rename_i hl
      cases e
      obtain ⟨v, rfl, vv⟩ := vw.one
      cases vv.str
      exact call_len_str pins s σ H _ us Q I r ⟨_, rfl, hl, rC_scalar g q (.int _)⟩
    · cases e
  · cases e
end
/-! ### isinstance -/
def tyD : D → String
  | .none => "NoneType"
  | .bool _ => "bool"
  | .int _ => "int"
  | .str _ => "str"
  | .list _ => "list"
  | .tuple _ => "tuple"
  | .dict _ => "dict"
def isTyp (T : String) : D → Bool
  | .none => false
  | .bool _ => T == "bool" || T == "int"
  | .int _ => T == "int"
  | .str _ => T == "str"
  | .list _ => T == "list"
  | .tuple _ => T == "tuple"
  | .dict _ => T == "dict"
def eIsT (T : String) (f : Ev) : Ev := fun Γ => (f Γ).bind fun _ d => .ok .dat (.bool (isTyp T d))
section
variable {X : Cx} {ca : String → Addr} {W : WX}
/-- a value's type; an odd dict's is dict -/
def TyY (K : PySem.W.Frag) (H : Hp) (v : V) (t : Value) : Prop := TyX K H v t ∨ (t = .type "dict" ∧ ∃ a o ku vu, v = .ref a ∧ H a = some (.frz o (.ext (OddAt a ku vu))))
theorem kit_ofY {pins : List (Addr × Obj)} {σ : St} {H : Hp} {s : Shared} {x : V} {u t : Value} (I : Inv X pins σ H s) (rx : RelV x u) (ty : TyY X.K H x t) : ∃ P : Heap → Prop, PySem.W.KitX X.K u t P ∧ P s.heap ∧ u ≠ .builtin "__main__.__loader__#opaque" := by
  rcases ty with ty | ⟨rfl, a, ob, ku, vu, rfl, ea⟩
  · exact kit_of I rx ty
  · cases (show u = Value.ref a from rx)
    obtain ⟨_, ⟨_, o, e, ep, h1, h2, _⟩, _⟩ := (show ObjOk X.prog X.w H s.heap a (.frz ob (.ext (OddAt a ku vu))) from I.hok a _ ea)
    exact ⟨_, PySem.W.kitx_dict, ⟨o, h1, h2.1⟩, fun z => nomatch z⟩
def rIsiY (K : PySem.W.Frag) : List V → Hp → VK → Prop := fun xs H Q => ∃ (x c : V) (t u : Value) (b : Bool), xs = [x, c] ∧ ClsV c u ∧ TyY K H x t ∧ PySem.W.kitOne K t u = some b ∧ Q (.bl b) H
theorem call_isiY : CallR X (.builtin "isinstance") (rIsiY X.K) := by
  intro pins s σ H xs us Q I r h
  obtain ⟨x, c, t, u, b, rfl, k, ty, e, q⟩ := h
  obtain ⟨u1, u2, rfl, r1, r2⟩ := vals2 r
  have same := k.eq r2
  subst same
  obtain ⟨P, Z, p, hx⟩ := kit_ofY I r1 ty
  exact PySem.W.kia_one Z I.kIn p e hx fun tk => ⟨.bl b, H, I.tok tk, rfl, q⟩
theorem View.ty {K : PySem.W.Frag} {G H : Hp} {v : V} {d : D} (g : Good G H) (h : View K G H v d) : TyY K H v (.type (tyD d)) := by
  rcases h with h | ⟨a, u, rfl, h, r⟩
  · cases h with
    | non => exact .inl <| .base .non
    | bl b => exact .inl <| .base (.bl b)
    | int i => exact .inl <| .base (.int i)
    | str x => exact .inl <| .base (.str x)
    | lst h r =>
      rcases g.rdl h with h | ⟨o, h⟩
      · exact .inl <| .base (.lst h)
      · exact .inl <| .base (.frz h)
    | tup h r => exact .inl <| .base (.tup (g.tup h))
    | dic h r =>
      obtain ⟨od, h⟩ := g _ _ h
      exact .inl <| .fDict h
    | odd h r1 r2 x y z =>
      obtain ⟨od, h⟩ := g _ _ h
      exact .inr ⟨rfl, _, od, _, _, rfl, h⟩
    | stat h =>
      rcases h with h | ⟨o, its, n, h1, h2, _⟩
      · rcases h with h | ⟨o, h⟩ <;> cases h
      · exact .inl <| .kList h1 h2
  · cases r with
    | lst r => exact .inl <| .base (.lst h)
    | dic r => exact .inl <| .base (.dK h)
theorem kit_tab : ∀ t ∈ ["NoneType", "bool", "int", "str", "list", "tuple", "dict"], ∀ T ∈ ["int", "bool", "str", "list", "tuple", "dict"], kitB t T = some ((t == T) || (t == "bool" && T == "int")) := by decide +kernel
theorem kit_all {T : String} (hT : T ∈ ["int", "bool", "str", "list", "tuple", "dict"]) (d : D) : kitB (tyD d) T = some (isTyp T d) := by
  have hd : tyD d ∈ ["NoneType", "bool", "int", "str", "list", "tuple", "dict"] := by cases d <;> simp [tyD]
  rw [kit_tab _ hd _ hT]
  simp only [List.mem_cons, List.not_mem_nil, or_false] at hT
  rcases hT with rfl | rfl | rfl | rfl | rfl | rfl <;> cases d <;> rfl
theorem snd_isT {T : String} {x y : Str} {p py pos : Pos} {e : Expr} {f : Ev} (hT : T ∈ ["int", "bool", "str", "list", "tuple", "dict"]) (h : Snd X ca W e f) (hg : Gl X x) (hm : X.mg x = none) (hv : bootBuiltins x = some (.builtin "isinstance"))
    (hgy : Gl X y) (hmy : X.mg y = none) (hvy : bootBuiltins y = some (.type T)) (hn : x ≠ "__name__" := by decide) (hdb : (x == ("__debug__" : Str)) = false := by decide) (hny : y ≠ "__name__" := by decide) (hdy : (y == ("__debug__" : Str)) = false := by decide)
    (he : starEach [e, .Name y py] X.env = (false, eval e X.env) :: starEach [.Name y py] X.env := by rfl) (he2 : starEach [.Name y py] X.env = (false, eval (.Name y py) X.env) :: starEach [] X.env := by rfl) (hpl : (backTo pos (starEach [.Name y py] X.env)).any (·.1) = false := by rfl) :
    Snd X ca W (.Call (.Name x p) [e, .Name y py] [] pos) (eIsT T f) := fun Γ =>
  pimp (pe_callB call_isiY hg hm hv (pa_cons (h Γ) (pa_cons (pe_bltn (v := .ty T) hgy hmy hvy rfl hny hdy) pa_nil he2) he) hn hdb he hpl) fun σ H Q ⟨G, o, q⟩ => ⟨G, o, q.bind.imp fun v G1 H1 s1 ⟨m, d, G2, e1, s2, r, n, q2⟩ => by
    refine ⟨v, .ty T, _, _, isTyp T d, rfl, .ty T, r.view.ty s2.good, kit_ty (kit_all hT d), ?_⟩
    exact (Fin.later s2 q2) _ G2 H1 (.refl s2.good) (.bl _) trivial⟩
end
/-! ### all -/
def bools : List D → Option (List Bool)
  | [] => some []
  | .bool b :: r => (bools r).map (b :: ·)
  | _ :: _ => none
def gAll : List D → Option (Md × D)
  | [.list ds] => (bools ds).map fun bs => (.dat, .bool (bs.all id))
  | _ => none
theorem Reps.bls {K : PySem.W.Frag} {G : Hp} : ∀ {vs : List V} {ds : List D} {bs : List Bool}, Reps K G vs ds → bools ds = some bs → vs = bs.map V.bl
  | _, _, _, .nil, e => by cases e; rfl
  | _, _, bs, .cons h r, e => by
    cases h <;> first
      | (cases e; done)
      | (unfold bools at e
         obtain ⟨cs, e1, e2⟩ := Option.map_eq_some_iff.mp e
         rw [← e2, List.map_cons, r.bls e1])
section
variable {X : Cx}
theorem gAll_ok (hc : X.calm = true) : CallR X (.builtin "all") (rC X.K gAll) := by
  intro pins s σ H xs us Q I r h
  obtain ⟨G, ds, m, d, g, vw, e, q⟩ := h
  unfold gAll at e
  split at e
  · obtain ⟨bs, e1, e2⟩ := Option.map_eq_some_iff.mp e
    cases e2
    obtain ⟨v, rfl, vv⟩ := vw.one
    obtain ⟨a, ys, rfl, hq, rr⟩ := vv.lst g
    rw [rr.bls e1] at hq
    exact cr_all hc pins s σ H _ us Q I r ⟨a, bs, rfl, hq, rC_scalar g q (.bl _)⟩
  · cases e
end
/-! ### dict, list, tuple -/
def pairs : List D → Option (List (D × D))
  | [] => some []
  | .tuple [k, v] :: r => if isKey k = true then (pairs r).map ((k, v) :: ·) else none
  | _ :: _ => none
def gDict : List D → Option (Md × D)
  | [.dict ds] => if okK ds = true then some (.own, .dict ds) else none
  | [.list ds] => (pairs ds).map fun ps => (.own, .dict (dmerge [] ps))
  | _ => none
theorem Reps.pairs {K : PySem.W.Frag} {G H : Hp} (g : Good G H) : ∀ {vs : List V} {ds : List D} {ps : List (D × D)}, Reps K G vs ds → Vb.pairs ds = some ps →
    ∃ (as : List Addr) (kvs : List (Key × V)), vs = as.map V.ref ∧ Paired (fun p kv => SqT K H p [kV kv.1, kv.2]) as kvs ∧ KReps K G kvs ps
  | _, _, _, .nil, e => by cases e; exact ⟨[], [], rfl, .nil, .nil⟩
  | _, _, ps, @Reps.cons _ _ v d vs ds h r, e => by
    unfold Vb.pairs at e
    split at e
    · rename_i h0; cases h0
    · rename_i k w r' e0
      cases e0
      split at e
      · rename_i hk
        obtain ⟨ps', e1, e2⟩ := Option.map_eq_some_iff.mp e
        subst e2
        obtain ⟨as, kvs, rfl, h1, h2⟩ := Reps.pairs g r e1
        obtain ⟨a, xs, rfl, ha, rr⟩ := View.tup g (.inl h)
        obtain ⟨key, rfl⟩ := key_of_isKey hk
        cases rr with
        | cons hkk rr =>
          cases rr with
          | cons hv rr =>
            cases rr
            have ek := View.key (G := G) (H := H) (.inl hkk)
            subst ek
            exact ⟨a :: as, (key, _) :: kvs, rfl, .cons (.of ha) h1, .cons hv h2⟩
      · cases e
    · cases e
def gList : List D → Option (Md × D)
  | [.list ds] => some (.own, .list ds)
  | [.tuple ds] => some (.own, .list ds)
  | [.dict ds] => if okK ds = true then some (.own, .list (ds.map (·.1))) else none
  | _ => none
theorem KReps.keys {K : PySem.W.Frag} {G : Hp} : ∀ {kvs : List (Key × V)} {ds : List (D × D)}, KReps K G kvs ds → Reps K G (kvs.map fun kv => kV kv.1) (ds.map (·.1))
  | _, _, .nil => .nil
  | _, _, .cons h r => .cons (rep_key _) r.keys
def gTuple : List D → Option (Md × D)
  | [.list ds] => some (.dat, .tuple ds)
  | [.tuple ds] => some (.dat, .tuple ds)
  | _ => none
section
variable {X : Cx}
theorem gDict_ok (hc : X.calm = true) : CallR X (.type "dict") (rC X.K gDict) := by
  intro pins s σ H xs us Q I r h
  obtain ⟨G, ds, m, d, g, vw, e, q⟩ := h
  unfold gDict at e
  split at e
  · split at e
    case isFalse => cases e
    rename_i hk
    cases e
    obtain ⟨v, rfl, vv⟩ := vw.one
    obtain ⟨a, kvs, rfl, hq, rr⟩ := vv.dic g hk
    obtain ⟨u, rfl, ru⟩ := vals1 r
    cases ru
    exact d_copyOf I hq fun p s' np I' => ⟨.ref p, _, I', rfl, new_own g q (.dic rr) np⟩
  · obtain ⟨ps, e1, e2⟩ := Option.map_eq_some_iff.mp e
    cases e2
    obtain ⟨v, rfl, vv⟩ := vw.one
    obtain ⟨a, ys, rfl, hq, rr⟩ := vv.lst g
    obtain ⟨as, kvs, rfl, h1, h2⟩ := rr.pairs g e1
    exact call_dictP hc pins s σ H _ us Q I r ⟨a, as, kvs, rfl, hq, h1, fun p np => new_own g q (.dic (KReps.merge .nil h2)) np⟩
  · cases e
theorem gTuple_ok : CallR X (.type "tuple") (rC X.K gTuple) := by
  intro pins s σ H xs us Q I r h
  obtain ⟨G, ds, m, d, g, vw, e, q⟩ := h
  unfold gTuple at e
  split at e
  · cases e
    obtain ⟨v, rfl, vv⟩ := vw.one
    obtain ⟨a, ys, rfl, hq, rr⟩ := vv.lst g
    exact call_tuple_of pins s σ H _ us Q I r ⟨a, ys, rfl, .inl ⟨hq, fun p np => new_tup g q rr np⟩⟩
  · cases e
    obtain ⟨v, rfl, vv⟩ := vw.one
    rcases vv with vv | ⟨_, _, _, _, rr⟩
    · obtain ⟨a, ys, rfl, hq, rr⟩ := View.tup g (.inl vv)
      exact call_tuple_of pins s σ H _ us Q I r ⟨a, ys, rfl, .inr ⟨.of hq, rC_scalar g q vv⟩⟩
    · cases rr
  · cases e
end
/-- the keys of a dict that may be locked, as a new list -/
theorem list_of_dict {X : Cx} {pins : List (Addr × Obj)} {σ : St} {H : Hp} {s : Shared} {p : Addr} {kvs : List (Key × V)} {Q : VK} (hc : X.calm = true) (I : Inv X pins σ H s) (hk : Rd H p (.dK kvs))
    (q : ∀ l, H l = none → Q (.ref l) (upd H l (.lst (kvs.map fun kv => kV kv.1)))) : wpAny (model X.prog X.w) X.A (call (.type "list") [.ref p]) (EP X pins σ Q) X.xe s := by
  obtain ⟨z, notSys, raw, rel, dict⟩ := dk_rd I.hok hk
  obtain ⟨ep, dat⟩ := dict.dictAt
  have len : kvs.length = raw.length := rel.length
  refine PySem.W.kdl_call (PySem.W.kdl_dict (knd := mixKind X.prog X.w) (kvs := raw) (ep := ep) notSys) (I.ok.hd hc) dat (len ▸ z) fun h' tk acc cap kept new its => ?_
  have vals : Vals (kvs.map fun kv => kV kv.1) acc.toList := by
    have la : acc.toList.length = kvs.length := by rw [Array.length_toList, its.1, len]
    refine vals_of_at (by rw [List.length_map, la]) fun j x u hx hu => ?_
    obtain ⟨key, val, e1, is⟩ := its.2 j u (by rw [← Array.getElem?_toList]; exact hu)
    have e2 : (kvs.map (·.1))[j]? = some key := by rw [rel.keys, List.getElem?_map, e1]; rfl
    rw [List.getElem?_map] at hx e2
    cases e3 : kvs[j]? with
    | none => rw [e3] at hx; cases hx
    | some kv =>
      rw [e3] at hx e2
      cases hx
      cases e2
      exact keyIs_rel is
  have ok : ObjOk X.prog X.w (upd H s.heap.objs.size (.lst (kvs.map fun kv => kV kv.1))) h' s.heap.objs.size (.lst (kvs.map fun kv => kV kv.1)) :=
    ⟨by rw [List.length_map]; exact z, acc.toList, cap, vals, by rw [Array.toArray_toList]; exact new⟩
  exact ⟨.ref s.heap.objs.size, _, I.laid kept (Nat.le_refl _) ok, rfl, q _ (I.hok.fresh (Nat.le_refl _))⟩
section
variable {X : Cx}
theorem gList_ok (hc : X.calm = true) : CallR X (.type "list") (rC X.K gList) := by
  intro pins s σ H xs us Q I r h
  obtain ⟨G, ds, m, d, g, vw, e, q⟩ := h
  unfold gList at e
  split at e
  · cases e
    obtain ⟨v, rfl, vv⟩ := vw.one
    obtain ⟨a, ys, rfl, hq, rr⟩ := vv.lst g
    exact call_list_of pins s σ H _ us Q I r ⟨a, ys, rfl, .inl hq, fun p np => new_own g q (.lst rr) np⟩
  · cases e
    obtain ⟨v, rfl, vv⟩ := vw.one
    obtain ⟨a, ys, rfl, hq, rr⟩ := vv.tup g
    exact call_list_of pins s σ H _ us Q I r ⟨a, ys, rfl, .inr (.of hq), fun p np => new_own g q (.lst rr) np⟩
  · split at e
    case isFalse => cases e
    rename_i hk
    cases e
    obtain ⟨v, rfl, vv⟩ := vw.one
    obtain ⟨a, kvs, rfl, hq, rr⟩ := vv.dic g hk
    obtain ⟨u, rfl, ru⟩ := vals1 r
    cases ru
    exact list_of_dict hc I hq fun p np => new_own g q (.lst rr.keys) np
  · cases e
end
/-! ### int, str, abs, min -/
def gInt : List D → Option (Md × D)
  | [.int i] => some (.dat, .int i)
  | [.bool b] => some (.dat, .int (if b then 1 else 0))
  | [.str x] => if x.length ≤ 640 then (PySem.intText? x).map fun n => (.dat, .int n) else none
  | _ => none
def gStr : List D → Option (Md × D)
  | [.int i] => if i.natAbs.log2 < 1920 then some (.dat, .str (toString i)) else none
  | [.str x] => some (.dat, .str x)
  | _ => none
def gAbs : List D → Option (Md × D)
  | [.int i] => some (.dat, .int (if i < 0 then -i else i))
  | _ => none
def gMin : List D → Option (Md × D)
  | [.int i, .int j] => some (.dat, .int (if j < i then j else i))
  | _ => none
section
variable {X : Cx}
theorem gInt_ok : CallR X (.type "int") (rC X.K gInt) := by
  intro pins s σ H xs us Q I r h
  obtain ⟨G, ds, m, d, g, vw, e, q⟩ := h
  unfold gInt at e
  split at e
  · cases e
    obtain ⟨v, rfl, vv⟩ := vw.one
    cases vv.int
    exact call_int1 pins s σ H _ us Q I r (.inl ⟨_, rfl, rC_scalar g q (.int _)⟩)
  · cases e
    obtain ⟨v, rfl, vv⟩ := vw.one
    cases vv.bl
    exact call_int1 pins s σ H _ us Q I r (.inr ⟨_, rfl, rC_scalar g q (.int _)⟩)
  · split at e
    · rename_i hl
      obtain ⟨n, e1, e2⟩ := Option.map_eq_some_iff.mp e
      cases e2
      obtain ⟨v, rfl, vv⟩ := vw.one
      cases vv.str
      exact call_int_str pins s σ H _ us Q I r ⟨_, n, rfl, e1, hl, rC_scalar g q (.int _)⟩
    · cases e
  · cases e
theorem gStr_ok : CallR X (.type "str") (rC X.K gStr) := by
  intro pins s σ H xs us Q I r h
  obtain ⟨G, ds, m, d, g, vw, e, q⟩ := h
  unfold gStr at e
  split at e
  · split at e
    · rename_i hl
      cases e
      obtain ⟨v, rfl, vv⟩ := vw.one
      cases vv.int
      exact call_str_int pins s σ H _ us Q I r ⟨_, rfl, hl, rC_scalar g q (.str _)⟩
    · cases e
  · cases e
    obtain ⟨v, rfl, vv⟩ := vw.one
    cases vv.str
    exact SkE.call_str_str pins s σ H _ us Q I r ⟨_, rfl, rC_scalar g q (.str _)⟩
  · cases e
theorem gAbs_ok : CallR X (.builtin "abs") (rC X.K gAbs) := by
  intro pins s σ H xs us Q I r h
  obtain ⟨G, ds, m, d, g, vw, e, q⟩ := h
  unfold gAbs at e
  split at e
  · cases e
    obtain ⟨v, rfl, vv⟩ := vw.one
    cases vv.int
    exact call_abs pins s σ H _ us Q I r ⟨_, rfl, rC_scalar g q (.int _)⟩
  · cases e
theorem gMin_ok (hc : X.calm = true) : CallR X (.builtin "min") (rC X.K gMin) := by
  intro pins s σ H xs us Q I r h
  obtain ⟨G, ds, m, d, g, vw, e, q⟩ := h
  unfold gMin at e
  split at e
  · cases e
    obtain ⟨v, w, rfl, vv, vw'⟩ := vw.two
    cases vv.int; cases vw'.int
    exact call_min2 hc pins s σ H _ us Q I r ⟨_, _, rfl, rC_scalar g q (.int _)⟩
  · cases e
end
end Vb
/-! Vg: sorted of texts. -/
namespace Vb
open PySem PySem.Spec PyProof.Rows L2
/-! ### the order of texts -/
theorem ltCps_asymm : ∀ a b : List Nat, ltCps a b = true → ltCps b a = false
  | [], [], h => by cases h
  | [], _ :: _, _ => rfl
  | _ :: _, [], h => by cases h
  | x :: r, y :: t, h => by
    simp only [ltCps, Bool.or_eq_true, decide_eq_true_eq, Bool.and_eq_true, beq_iff_eq] at h
    simp only [ltCps, Bool.or_eq_false_iff, decide_eq_false_iff_not, Bool.and_eq_false_imp, beq_iff_eq]
    rcases h with h | ⟨rfl, h⟩
    · exact ⟨by omega, fun e => by omega⟩
    · exact ⟨by omega, fun _ => ltCps_asymm r t h⟩
theorem ltCps_eq_of : ∀ a b : List Nat, ltCps a b = false → ltCps b a = false → a = b
  | [], [], _, _ => rfl
  | [], _ :: _, h, _ => by cases h
  | _ :: _, [], _, h => by cases h
  | x :: r, y :: t, h, h' => by
    simp only [ltCps, Bool.or_eq_false_iff, decide_eq_false_iff_not, Bool.and_eq_false_imp, beq_iff_eq] at h h'
    have e : x = y := by omega
    subst e
    rw [ltCps_eq_of r t (h.2 rfl) (h'.2 rfl)]
theorem ltCps_trans : ∀ a b c : List Nat, ltCps a b = true → ltCps b c = true → ltCps a c = true
  | [], [], _, h, _ => by cases h
  | [], _ :: _, [], _, h => by cases h
  | [], _ :: _, _ :: _, _, _ => rfl
  | _ :: _, [], _, h, _ => by cases h
  | _ :: _, _ :: _, [], _, h => by cases h
  | x :: r, y :: t, z :: u, h, h' => by
    simp only [ltCps, Bool.or_eq_true, decide_eq_true_eq, Bool.and_eq_true, beq_iff_eq] at h h' ⊢
    rcases h with h | ⟨rfl, h⟩ <;> rcases h' with h' | ⟨rfl, h'⟩
    · exact .inl (by omega)
    · exact .inl h
    · exact .inl h'
    · exact .inr ⟨rfl, ltCps_trans r t u h h'⟩
def leS (a b : Str) : Bool := !ltCps b.cps.toList a.cps.toList
theorem leS_total (a b : Str) : (leS a b || leS b a) = true := by
  unfold leS
  cases h : ltCps b.cps.toList a.cps.toList with
  | false => rfl
  | true => rw [ltCps_asymm _ _ h]; rfl
theorem leS_antisymm {a b : Str} (h : leS a b = true) (h' : leS b a = true) : a = b := by
  unfold leS at h h'
  have e := ltCps_eq_of a.cps.toList b.cps.toList (by simpa using h') (by simpa using h)
  obtain ⟨a⟩ := a
  obtain ⟨b⟩ := b
  have z : a = b := Array.toList_inj.mp e
  rw [z]
theorem leS_trans (a b c : Str) (h : leS a b = true) (h' : leS b c = true) : leS a c = true := by
  unfold leS at h h' ⊢
  simp only [Bool.not_eq_true'] at h h' ⊢
  cases e : ltCps c.cps.toList a.cps.toList with
  | false => rfl
  | true =>
    cases e2 : ltCps a.cps.toList b.cps.toList with
    | true => rw [ltCps_trans _ _ _ e e2] at h'; cases h'
    | false =>
      have z := ltCps_eq_of a.cps.toList b.cps.toList e2 h
      rw [z, h'] at e; cases e
def sortS (xs : List Str) : List Str := xs.mergeSort leS
theorem sortS_perm (xs : List Str) : (sortS xs).Perm xs := List.mergeSort_perm xs leS
theorem sortS_pw (xs : List Str) : (sortS xs).Pairwise (fun a b => leS a b = true) := List.pairwise_mergeSort leS_trans leS_total xs
theorem pw_eq : ∀ {xs ys : List Str}, xs.Perm ys → xs.Pairwise (fun a b => leS a b = true) → ys.Pairwise (fun a b => leS a b = true) → xs = ys
  | [], ys, p, _, _ => (List.nil_perm.mp p).symm
  | x :: xs, [], p, _, _ => absurd (List.perm_nil.mp p) (by simp)
  | x :: xs, y :: ys, p, hx, hy => by
    have hx' := List.pairwise_cons.mp hx
    have hy' := List.pairwise_cons.mp hy
    have e : x = y := by
      have m1 : x ∈ y :: ys := p.mem_iff.mp List.mem_cons_self
      have m2 : y ∈ x :: xs := p.mem_iff.mpr List.mem_cons_self
      rcases List.mem_cons.mp m1 with e | m1
      · exact e
      · rcases List.mem_cons.mp m2 with e | m2
        · exact e.symm
        · exact leS_antisymm (hx'.1 y m2) (hy'.1 x m1)
    subst e
    rw [pw_eq ((List.perm_cons x).mp p) hx'.2 hy'.2]
theorem risingS_pw : ∀ (p : Str) (l : List Str), risingS p l = true → (p :: l).Pairwise (fun a b => leS a b = true)
  | p, [], _ => by simp
  | p, x :: r, h => by
    unfold risingS at h
    rw [Bool.and_eq_true_iff] at h
    have ih := risingS_pw x r h.2
    refine List.pairwise_cons.mpr ⟨fun a ha => ?_, ih⟩
    have hx : leS p x = true := h.1
    rcases List.mem_cons.mp ha with rfl | ha
    · exact hx
    · exact leS_trans _ _ _ hx ((List.pairwise_cons.mp ih).1 a ha)
theorem sortedS_pw {l : List Str} (h : sortedS l = true) : l.Pairwise (fun a b => leS a b = true) := by
  cases l with
  | nil => exact .nil
  | cons x r => exact risingS_pw x r h
theorem sortS_of {xs ys : List Str} (p : ys.Perm xs) (h : sortedS ys = true) : ys = sortS xs := pw_eq (p.trans (sortS_perm xs).symm) (sortedS_pw h) (sortS_pw xs)
theorem sortS_congr {xs ys : List Str} (p : xs.Perm ys) : sortS xs = sortS ys := pw_eq ((sortS_perm xs).trans (p.trans (sortS_perm ys).symm)) (sortS_pw xs) (sortS_pw ys)
theorem sortS_iff {xs ys : List Str} : sortS xs = sortS ys ↔ xs.Perm ys := ⟨fun e => (sortS_perm xs).symm.trans (e ▸ sortS_perm ys), sortS_congr⟩
def txts : List D → Option (List Str)
  | [] => some []
  | .str x :: r => (txts r).map (x :: ·)
  | _ :: _ => none
theorem Reps.txts {K : PySem.W.Frag} {G : Hp} : ∀ {vs : List V} {ds : List D} {xs : List Str}, Reps K G vs ds → Vb.txts ds = some xs → vs = xs.map V.str
  | _, _, _, .nil, e => by cases e; rfl
  | _, _, bs, .cons h r, e => by
    cases h <;> first
      | (cases e; done)
      | (unfold Vb.txts at e
         obtain ⟨cs, e1, e2⟩ := Option.map_eq_some_iff.mp e
         rw [← e2, List.map_cons, r.txts e1])
theorem reps_txts {K : PySem.W.Frag} {G : Hp} : ∀ (xs : List Str), Reps K G (xs.map V.str) (xs.map PyData.str)
  | [] => .nil
  | x :: r => .cons (.str x) (reps_txts r)
theorem KReps.txts {K : PySem.W.Frag} {G : Hp} : ∀ {kvs : List (Key × V)} {ds : List (D × D)} {xs : List Str}, KReps K G kvs ds → Vb.txts (ds.map (·.1)) = some xs → kvs.map (·.1) = xs.map Sum.inr
  | _, _, _, .nil, e => by cases e; rfl
  | _, _, bs, @KReps.cons _ _ k v d vs ds h r, e => by
    cases k with
    | inl i => cases e
    | inr x =>
      have e' : (Vb.txts (ds.map (·.1))).map (x :: ·) = some bs := e
      obtain ⟨cs, e1, e2⟩ := Option.map_eq_some_iff.mp e'
      rw [← e2, List.map_cons, List.map_cons, r.txts e1]
theorem okK_txts : ∀ {ds : List (D × D)} {xs : List Str}, Vb.txts (ds.map (·.1)) = some xs → okK ds = true
  | [], _, _ => rfl
  | (k, v) :: ds, xs, e => by
    cases k with
    | str x =>
      have e' : (Vb.txts (ds.map (·.1))).map (x :: ·) = some xs := e
      obtain ⟨cs, e1, _⟩ := Option.map_eq_some_iff.mp e'
      have ih := okK_txts e1
      unfold okK at ih ⊢
      rw [List.all_cons, ih]; rfl
    | _ => cases e
def gSorted : List D → Option (Md × D)
  | [.list ds] => match txts ds with
    | some xs => if xs.length < 64 then some (.own, .list ((sortS xs).map .str)) else none
    | none => none
  | [.dict ds] => match txts (ds.map (·.1)) with
    | some xs => if xs.length < 64 then some (.own, .list ((sortS xs).map .str)) else none
    | none => none
  | _ => none
section
variable {X : Cx}
theorem gSorted_ok (hc : X.calm = true) : CallR X (.builtin "sorted") (rC X.K gSorted) := by
  intro pins s σ H xs us Q I r h
  obtain ⟨G, ds, m, d, g, vw, e, q⟩ := h
  unfold gSorted at e
  split at e
  · split at e
    · rename_i ds' zs hz
      split at e
      · rename_i hl
        cases e
        obtain ⟨v, rfl, vv⟩ := vw.one
        obtain ⟨a, ys, rfl, hq, rr⟩ := vv.lst g
        rw [rr.txts hz] at hq
        exact cr_sortedS pins s σ H _ us Q I r ⟨a, zs, rfl, hq, hl, fun ws p pm so np => by
          rw [sortS_of pm so]
          exact new_own g q (.lst (reps_txts _)) np⟩
      · cases e
    · cases e
  · split at e
    · rename_i ds' zs hz
      split at e
      · rename_i hl
        cases e
        obtain ⟨v, rfl, vv⟩ := vw.one
        obtain ⟨a, kvs, rfl, hq, rr⟩ := vv.dic g (okK_txts hz)
        exact call_sortedD hc pins s σ H _ us Q I r ⟨a, kvs, zs, rfl, hq, rr.txts hz, hl, fun ws p pm so np => by
          rw [sortS_of pm so]
          exact new_own g q (.lst (reps_txts _)) np⟩
      · cases e
    · cases e
  · cases e
end
end Vb
/-! Vl: what is walked; targets; for; list comprehensions. -/
namespace Vb
open PySem PySem.Spec PyProof.Rows L2
/-! ### what is walked -/
/-- J yields the items ds wherever G stands -/
def KeepD (G H H1 : Hp) : Prop := ∀ a u, G a ≠ none → H a = some u → H1 a = some u
def Src (K : PySem.W.Frag) (J : It) (ds : List D) (G H : Hp) : Prop := ∀ (i : Nat) (G1 H1 : Hp), Sub G G1 → KeepD G H H1 → Good G1 H1 →
  (i < ds.length → J.go i H1 ∧ ∀ x H2, J.yld i H1 x H2 → ∃ G2, Stp G1 H1 G2 H2 ∧ ∀ d, ds[i]? = some d → Rep K G2 x d) ∧ (ds.length ≤ i → J.stop i H1)
inductive OutI where
  | ok (ds : List D)
  | err (x : Exn)
  | stuck
abbrev EvI := Env → OutI
def iD (K : PySem.W.Frag) (ca : String → Addr) (W : WX) (f : EvI) (Γ : Env) : TI := fun σ H R => ∃ G, StOk K G H Γ σ ∧ match f Γ with
  | .ok ds => ∀ J G' H', Stp G H G' H' → Src K J ds G' H' → R J H'
  | .err x => ∀ c dx G' H', Stp G H G' H' → XRep K ca G' H' x c dx → W c dx σ H'
  | .stuck => False
def SndI (X : Cx) (ca : String → Addr) (W : WX) (tg iter : Expr) (f : EvI) : Prop := ∀ Γ, PI X tg iter (iD X.K ca W f Γ)
theorem piimp {X : Cx} {tg e : Expr} {t t' : TI} (h : PI X tg e t) (i : ∀ σ H R, t' σ H R → t σ H R) : PI X tg e t' := ⟨fun p s σ H R I q => h.run p s σ H R I (i _ _ _ q)⟩
def signs (x : Str) : List D := x.cps.toList.map fun c => .str ⟨#[c]⟩
def items : D → Option (List D)
  | .list ds => some ds
  | .tuple ds => some ds
  | .dict ds => some (ds.map (·.1))
  | .str x => some (signs x)
  | _ => none
def iVal (f : Ev) : EvI := fun Γ => match eDat f Γ with
  | .ok _ d => (match items d with
    | some ds => .ok ds
    | none => .stuck)
  | .err x => .err x
  | .stuck => .stuck
section
variable {K : PySem.W.Frag} {G H : Hp}
theorem src_tup {a : Addr} {xs : List V} {ds : List D} (h : G a = some (.tup xs)) (r : Reps K G xs ds) : Src K (Itt K a) ds G H := fun i G1 H1 s _ g => by
  have hs : SqT K H1 a xs := .of (g.tup (s _ _ h))
  refine ⟨fun hi' => ?_, fun hl => ⟨xs, hs, by rw [r.length]; exact hl⟩⟩
  obtain ⟨d, hd⟩ : ∃ d, ds[i]? = some d := ⟨ds[i], List.getElem?_eq_getElem hi'⟩
  obtain ⟨x, hx, rx⟩ := r.get hd
  refine ⟨⟨xs, x, hs, hx⟩, fun y H2 ⟨e, hy⟩ => ?_⟩
  subst e
  refine ⟨G1, .refl g, fun d' hd' => ?_⟩
  rw [hd] at hd'; cases hd'
  have := hy xs hs
  rw [hx] at this; cases this
  exact rx.mono s
theorem KReps.key_at : ∀ {kvs : List (Key × V)} {ds : List (D × D)} {i : Nat} {k : Key} {v : V}, KReps K G kvs ds → kvs[i]? = some (k, v) → ∃ d, ds[i]? = some (kD k, d) ∧ Rep K G v d
  | _, _, _, _, _, .nil, e => by simp at e
  | _, _, 0, _, _, .cons h _, e => by simp at e; obtain ⟨rfl, rfl⟩ := e; exact ⟨_, rfl, h⟩
  | _, _, i + 1, k, v, .cons _ r, e => by
    obtain ⟨d, h1, h2⟩ := r.key_at (i := i) (by simpa using e)
    exact ⟨d, by simpa using h1, h2⟩
theorem src_keys {a : Addr} {o : Obj} {kvs : List (Key × V)} {ds : List (D × D)} (ga : G a ≠ none) (ha : H a = some (.frz o (.dK kvs))) (r : KReps K G kvs ds) : Src K (Itk a o kvs) (ds.map (·.1)) G H := fun i G1 H1 s kp g => by
  have h := kp a _ ga ha
  refine ⟨fun hi => ⟨⟨h, by rw [r.length]; simpa using hi⟩, fun x H2 ⟨e, k, v, hk, ex⟩ => ?_⟩, fun hl => ⟨h, by rw [r.length]; simpa using hl⟩⟩
  subst e
  refine ⟨G1, .refl g, fun d hd => ?_⟩
  obtain ⟨d', h1, _⟩ := r.key_at hk
  rw [List.getElem?_map, h1] at hd
  cases hd
  rw [ex]
  exact rep_key k
theorem src_str {x : Str} : Src K (Its x) (signs x) G H := fun i G1 H1 s _ g => by
  have el : (signs x).length = x.cps.size := by unfold signs; simp
  refine ⟨fun hi => ⟨by show i < x.cps.size; omega, fun v H2 ⟨e, c, hc, ev⟩ => ?_⟩, fun hl => by show x.cps.size ≤ i; omega⟩
  subst e
  refine ⟨G1, .refl g, fun d hd => ?_⟩
  unfold signs at hd
  rw [List.getElem?_map, Array.getElem?_toList, hc] at hd
  cases hd
  rw [ev]
  exact .str _
theorem src_range {lo : Int} {n : Nat} : Src K (Itr lo n) ((List.range n).map fun (i : Nat) => PyData.int (lo + i)) G H := fun i G1 H1 s _ g => by
  refine ⟨fun hi => ⟨by show i < n; simpa using hi, fun v H2 ⟨e, ev⟩ => ?_⟩, fun hl => by show n ≤ i; simpa using hl⟩
  subst e
  refine ⟨G1, .refl g, fun d hd => ?_⟩
  have hi' : i < n := by simpa using hi
  rw [List.getElem?_map, List.getElem?_range hi'] at hd
  cases hd
  rw [ev]
  exact .int _
end
theorem KReps.okK {K : PySem.W.Frag} {G : Hp} : ∀ {kvs : List (Key × V)} {ds : List (D × D)}, KReps K G kvs ds → Vb.okK ds = true
  | _, _, .nil => rfl
  | _, _, @KReps.cons _ _ k v d vs ds h r => by
    have ih := r.okK
    unfold Vb.okK at ih ⊢
    rw [List.all_cons, ih]
    cases k <;> rfl
/-! ### the key of an odd dict -/
def Ito (d : Addr) (o : Obj) (k : V) (ku vu : Value) : It :=
  ⟨fun i H => H d = some (.frz o (.ext (OddAt d ku vu))) ∧ i < 1, fun i H x H' => H' = H ∧ x = k, fun i H => H d = some (.frz o (.ext (OddAt d ku vu))) ∧ 1 ≤ i⟩
theorem odd_at {X : Cx} {pins : List (Addr × Obj)} {σ : St} {H : Hp} {s : Shared} {d : Addr} {o : Obj} {ku vu : Value} (I : Inv X pins σ H s) (h : H d = some (.frz o (.ext (OddAt d ku vu)))) :
    (d == sysModules) = false ∧ s.heap.get? d = some o ∧ o.ExactDict ∧ ∃ (e : DictEntry) (ep : Nat), o.data = .dict #[e] ep ∧ e.key = ku ∧ e.val = vu := by
  obtain ⟨hd, ⟨sy, o', e, ep, h1, h2, h3, h4, h5⟩, _⟩ := (show ObjOk X.prog X.w H s.heap d (.frz o (.ext (OddAt d ku vu))) from I.hok d _ h)
  rw [hd] at h1; cases h1
  exact ⟨sy, hd, h2, e, ep, h3, h4, h5⟩
theorem turn_odd {P : Program} {w : World} {K : PySem.W.Frag} {tg : Expr} {d : Addr} {o : Obj} {en : DictEntry} {ep : Nat} {k : V} {ku vu : Value} (it : Addr) (hod : o.data = .dict #[en] ep) (rk : RelV k ku) : Turn P w K tg (Ito d o k ku vu) [it] it (fun i h => h.IsKeyIter it d i 1 ep) where
  mem := by simp
  obj := fun i h st b hb => by
    obtain rfl : b = it := by simpa using hb
    obtain ⟨oi, e, c, dd⟩ := st
    exact ⟨oi, e, fun v z => by rw [dd] at z; cases z⟩
  keep := fun i h h' st k => st.at fun oi e => k it (by simp) oi e
  item := by
    intro X hP hw hK hc i pins s σ H E I hf st ⟨hd, hi⟩
    subst hP hw hK
    obtain ⟨f0, f1, f2, f3, f4, f5⟩ := hf it (by simp)
    obtain ⟨hs, hgd, hx, e', ep', hdt, ek, ev⟩ := odd_at I hd
    obtain ⟨q1, rfl⟩ := dict_ep hod hdt
    obtain rfl : e' = en := by simpa using q1
    obtain rfl : i = 0 := by omega
    refine next_key_item st hgd hdt rfl (en := e') rfl fun h' st' sb => ?_
    have J : Inv X pins σ H { s with heap := h' } := I.turned (t' := s.toks) (fun b ob hb e => (sb.2 b hb).trans e) f0 f1 f3 f4 f5
    obtain ⟨oi, e, c, dd⟩ := id st'
    exact ⟨e'.key, rfl, go_of (s := { s with heap := h' }) e c dd (by decide) ⟨k, H, J, by rw [ek]; exact rk, ⟨rfl, rfl⟩, st', fun b hb => (hf b hb).1⟩⟩
  done := by
    intro X hP hw hK hc i pins s σ H E I hf st ⟨hd, hi⟩
    subst hP hw hK
    obtain ⟨f0, f1, f2, f3, f4, f5⟩ := hf it (by simp)
    obtain ⟨hs, hgd, hx, e', ep', hdt, ek, ev⟩ := odd_at I hd
    obtain ⟨q1, rfl⟩ := dict_ep hod hdt
    exact next_key_end (I.ok.hd hc) st hgd hdt rfl hi fun h' eb => ⟨rfl, I.turned (t' := s.toks) (fun b ob hb e => eb b ob hb e) f0 f1 f3 f4 f5⟩
  self := fun A i s Q E st h => wpAny_pyIter_keyiter st h
def iOdd (td : TE) : TI := fun σ H R => td σ H fun x H1 => ∃ d o k ku vu, x = .ref d ∧ H1 d = some (.frz o (.ext (OddAt d ku vu))) ∧ RelV k ku ∧ R (Ito d o k ku vu) H1
theorem pi_odd {X : Cx} {tg e : Expr} {td : TE} (he : PE X e td) : PI X tg e (iOdd td) := by
  refine ⟨fun pins s σ H R I h => thn (he.run pins s σ H _ I h) fun u s1 ⟨x, H1, J, rx, d, o, k, ku, vu, ex, hd, rk, q⟩ => ?_⟩
  subst ex
  obtain rfl : u = Value.ref d := rx
  obtain ⟨hs, hgd, hx, en, ep, hdt, ek, ev⟩ := odd_at J hd
  exact iter_keys hs hgd hx hdt (pi_one (tk := s1.toks) J _ (turn_odd _ hdt rk) ⟨_, Heap.get?_push_size _ rfl, rfl, rfl⟩ q)
theorem src_odd {K : PySem.W.Frag} {G H : Hp} {a : Addr} {o : Obj} {k : V} {kd : D} {ku vu : Value} (ga : G a ≠ none) (ha : H a = some (.frz o (.ext (OddAt a ku vu)))) (r : Rep K G k kd) : Src K (Ito a o k ku vu) [kd] G H := fun i G1 H1 s kp g => by
  have h := kp a _ ga ha
  refine ⟨fun hi => ⟨⟨h, by simpa using hi⟩, fun x H2 ⟨e, ex⟩ => ?_⟩, fun hl => ⟨h, by simpa using hl⟩⟩
  subst e ex
  obtain rfl : i = 0 := by simpa using hi
  exact ⟨G1, .refl g, fun d hd => by cases hd; exact r.mono s⟩
section
variable {X : Cx} {ca : String → Addr} {W : WX} {tg iter : Expr} {f : Ev}
theorem stok_unlock {K : PySem.W.Frag} {G : Hp} {a : Addr} {xs : List V} (h : G a = some (.lst xs)) (H : Hp) (g : Good G H) : SqL K H a xs := .inl (g.rdl h)
theorem sndi_val (h : Snd X ca W iter f) : SndI X ca W tg iter (iVal f) := fun Γ => by
  have hd := snd_dat h
  -- which rule: by the outcome
  cases e : eDat f Γ with
  | stuck => exact piimp (pi_list (hd Γ)) fun σ H R ⟨G, o, q⟩ => by unfold iVal at q; rw [e] at q; exact False.elim q
  | err x => exact piimp (pi_list (hd Γ)) fun σ H R ⟨G, o, q⟩ => ⟨G, o, by unfold iVal at q; rw [e] at q ⊢; exact q⟩
  | ok m d =>
    have hm : m = .dat := by
      unfold eDat Out.dat at e
      split at e <;> first | (cases e; rfl) | cases e | skip
      · rename_i o z1 z2
        cases m with
        | dat => rfl
        | own => exact absurd e (z1 d)
        | bor => exact absurd e (z2 d)
    subst hm
    cases d with
    | list ds =>
      refine piimp (pi_list (hd Γ)) fun σ H R ⟨G, o, q⟩ => ⟨G, o, ?_⟩
      unfold iVal at q
      rw [e] at q ⊢
      intro v G' H' s r _
      cases r with
      | @lst a xs _ ha rr =>
        refine ⟨a, rfl, ⟨xs, .inl (s.good.rdl ha)⟩, q _ G' H' s fun i G1 H1 s1 _ g1 => ?_⟩
        have hs : SqL X.K H1 a xs := .inl (g1.rdl (s1 _ _ ha))
        refine ⟨fun hi => ?_, fun hl => ⟨xs, hs, by rw [rr.length]; exact hl⟩⟩
        obtain ⟨d, hd'⟩ : ∃ d, ds[i]? = some d := ⟨ds[i], List.getElem?_eq_getElem hi⟩
        obtain ⟨x, hx, rx⟩ := rr.get hd'
        refine ⟨⟨xs, x, hs, hx⟩, fun y H2 ⟨e2, hy⟩ => ⟨G1, by rw [e2]; exact .refl g1, fun d2 h2 => ?_⟩⟩
        rw [hd'] at h2; cases h2
        have h3 := hy xs hs
        rw [hx] at h3; cases h3
        exact rx.mono s1
      | @stat a ns ha =>
        have hk : ∀ H1, SqL X.K H1 a (ns.map V.int) := fun H1 => by
          rcases ha with ha | ha
          · rcases ha with ha | ⟨ob, ha⟩ <;> cases ha
          · exact .inr ha
        refine ⟨a, rfl, ⟨_, hk H'⟩, q _ G' H' s fun i G1 H1 s1 _ g1 => ?_⟩
        have rr : Reps X.K G1 (ns.map V.int) (ns.map PyData.int) := Reps.ints ns
        refine ⟨fun hi => ?_, fun hl => ⟨_, hk H1, by rw [rr.length]; exact hl⟩⟩
        obtain ⟨d, hd'⟩ : ∃ d, (ns.map PyData.int)[i]? = some d := ⟨(ns.map PyData.int)[i], List.getElem?_eq_getElem hi⟩
        obtain ⟨x, hx, rx⟩ := rr.get hd'
        refine ⟨⟨_, x, hk H1, hx⟩, fun y H2 ⟨e2, hy⟩ => ⟨G1, by rw [e2]; exact .refl g1, fun d2 h2 => ?_⟩⟩
        rw [hd'] at h2; cases h2
        have h3 := hy _ (hk H1)
        rw [hx] at h3; cases h3
        exact rx
    | tuple ds =>
      refine piimp (pi_tup (hd Γ)) fun σ H R ⟨G, o, q⟩ => ⟨G, o, ?_⟩
      unfold iVal at q
      rw [e] at q ⊢
      intro v G' H' s r _
      cases r with
      | @tup a xs _ ha rr => exact ⟨a, rfl, ⟨xs, .of (s.good.tup ha)⟩, q _ G' H' s (src_tup ha rr)⟩
    | dict ds =>
      cases hk : okK ds with
      | true =>
        refine piimp (pi_keys (hd Γ)) fun σ H R ⟨G, o, q⟩ => ⟨G, o, ?_⟩
        unfold iVal at q
        rw [e] at q ⊢
        intro v G' H' s r _
        cases r with
        | @dic a kvs _ ha rr =>
          obtain ⟨od, hf⟩ := s.good a _ ha
          exact ⟨a, od, rfl, .inl ⟨kvs, hf, q _ G' H' s (src_keys (by rw [ha]; simp) hf rr)⟩⟩
        | odd _ _ _ _ _ z => unfold okK at hk; simp [z] at hk
      | false =>
        refine piimp (pi_odd (hd Γ)) fun σ H R ⟨G, o, q⟩ => ⟨G, o, ?_⟩
        unfold iVal at q
        rw [e] at q ⊢
        intro v G' H' s r _
        cases r with
        | @dic a kvs _ ha rr => exact absurd hk (by rw [rr.okK]; simp)
        | @odd a k v ku vu kd vd ha r1 r2 x y z =>
          obtain ⟨od, hf⟩ := s.good a _ ha
          exact ⟨a, od, k, ku, vu, rfl, hf, r1, q _ G' H' s (src_odd (by rw [ha]; simp) hf x)⟩
    | str x =>
      refine piimp (pi_str (hd Γ)) fun σ H R ⟨G, o, q⟩ => ⟨G, o, ?_⟩
      unfold iVal at q
      rw [e] at q ⊢
      intro v G' H' s r _
      cases r with
      | str => exact ⟨x, rfl, q _ G' H' s src_str⟩
    | _ => exact piimp (pi_list (hd Γ)) fun σ H R ⟨G, o, q⟩ => by unfold iVal at q; rw [e] at q; exact False.elim q
end
end Vb
/-! Vm: targets; range, enumerate, reversed; for; list comprehensions. -/
namespace Vb
open PySem PySem.Spec PyProof.Rows L2
/-! ### targets -/
abbrev Bd := D → Env → Option Env
/-- outside the places is the slots are the same -/
def Same0 (is : List Nat) (σ σ' : St) : Prop := ∀ vs : List Nat, (∀ i ∈ is, i ∈ vs) → wipe σ' vs = wipe σ vs
def gD (K : PySem.W.Frag) (is : List Nat) (b : Bd) : TG := fun v σ H Q => ∃ Γ G d Γ', StOk K G H Γ σ ∧ Rep K G v d ∧ b d Γ = some Γ' ∧ ∀ σ', StOk K G H Γ' σ' → (∀ a, Own Γ' σ' a → Own Γ σ a) → Same0 is σ σ' → Q σ' H
def SndG (X : Cx) (tg : Expr) (is : List Nat) (b : Bd) : Prop := PG X tg (gD X.K is b)
theorem pgimp {X : Cx} {e : Expr} {t t' : TG} (h : PG X e t) (i : ∀ v σ H Q, t' v σ H Q → t v σ H Q) : PG X e t' := ⟨fun p s σ H v u Q I r q => h.run p s σ H v u Q I r (i _ _ _ _ q)⟩
def bName (i : Nat) : Bd := fun d Γ => some (Γ.set i (.dat d))
/-- several names -/
def bAll : List Nat → List D → Env → Option Env
  | [], [], Γ => some Γ
  | i :: is, d :: ds, Γ => bAll is ds (Γ.set i (.dat d))
  | _, _, _ => none
def bTup (is : List Nat) : Bd := fun d Γ => match d with
  | .tuple ds => bAll is ds Γ
  | _ => none
theorem StOk.bind {K : PySem.W.Frag} {G H : Hp} {Γ : Env} {σ : St} {i : Nat} {v : V} {d : PyData} (o : StOk K G H Γ σ) (r : Rep K G v d) : StOk K G H (Γ.set i (.dat d)) (σ.set i (some v)) ∧ ∀ a, Own (Γ.set i (.dat d)) (σ.set i (some v)) a → Own Γ σ a := by
  obtain ⟨o2, s2⟩ := o.store (i := i) (.refl o.good) (m := .dat) r trivial (.inl ⟨rfl, rfl⟩)
  refine ⟨o2, fun a ⟨j, d1, e1, e2⟩ => ?_⟩
  rcases set_get e1 with ⟨_, z, _⟩ | ⟨hj, e1⟩
  · cases z
  · rw [List.getElem?_set_ne hj] at e2
    exact ⟨j, d1, e1, e2⟩
theorem wipe_same {σ : St} {i : Nat} {x : Option V} : ∀ {vs : List Nat}, i ∈ vs → wipe (σ.set i x) vs = wipe σ vs
  | [], h => by cases h
  | v :: vs, h => by
    unfold wipe
    by_cases e : v = i
    · subst e
      by_cases hm : v ∈ vs
      · rw [wipe_same hm]
      · have key : ∀ vs : List Nat, v ∉ vs → wipe (σ.set v x) vs = (wipe σ vs).set v x := fun vs => by
          induction vs with
          | nil => exact fun _ => rfl
          | cons w ws ih =>
            intro hn
            unfold wipe
            rw [ih (fun z => hn (List.mem_cons_of_mem _ z))]
            have hne : v ≠ w := fun z => hn (by rw [z]; exact List.mem_cons_self)
            rw [List.set_comm _ _ hne]
        rw [key vs hm, List.set_set]
    · have hm : i ∈ vs := (List.mem_cons.mp h).resolve_left fun z => e z.symm
      rw [wipe_same hm]
section
variable {X : Cx}
theorem sndg_name {i : Nat} {x : Str} {pos : Pos} (hN : X.N.Nodup) (hi : X.N[i]? = some x) (hx : Loc X.env.scope x) (hf : X.fn x = true ∨ X.env.scope.names.lookup x = some .local := by first | exact .inl rfl | exact .inr rfl | assumption) : SndG X (.Name x pos) [i] (bName i) :=
  pgimp (pg_name hN hi hx hf) fun v σ H Q ⟨Γ, G, d, Γ', o, r, e, q⟩ => by
    cases e
    obtain ⟨o2, s2⟩ := o.bind (i := i) r
    exact q _ o2 s2 fun vs h => wipe_same (h i (by simp))
/-- the names of a tuple target -/
inductive SndGs (X : Cx) : List Expr → List Nat → Prop
  | nil : SndGs X [] []
  | cons {i : Nat} {x : Str} {pos : Pos} {es : List Expr} {is : List Nat} (hi : X.N[i]? = some x) (hx : Loc X.env.scope x) (hf : X.fn x = true ∨ X.env.scope.names.lookup x = some .local)
      (hs : (assignEach (.Name x pos :: es) X.env).map (·.2) = assign (.Name x pos) X.env :: (assignEach es X.env).map (·.2)) (h : SndGs X es is) : SndGs X (.Name x pos :: es) (i :: is)
def gTgs (K : PySem.W.Frag) (is : List Nat) : TGs := fun vs σ H Q => ∃ Γ G ds Γ', StOk K G H Γ σ ∧ Reps K G vs ds ∧ bAll is ds Γ = some Γ' ∧ ∀ σ', StOk K G H Γ' σ' → (∀ a, Own Γ' σ' a → Own Γ σ a) → Same0 is σ σ' → Q σ' H
theorem pgs_of (hN : X.N.Nodup) {es : List Expr} {is : List Nat} (h : SndGs X es is) : PGs X es (gTgs X.K is) := by
  induction h with
  | nil =>
    refine ⟨fun p s σ H vs us Q I r ⟨Γ, G, ds, Γ', o, rr, e, q⟩ => pgs_nil.run p s σ H vs us Q I r ?_⟩
    cases rr with
    | nil => cases e; exact ⟨rfl, q σ o (fun _ h => h) fun _ _ => rfl⟩
    | cons _ _ => cases e
  | @cons i x pos es is hi hx hf hs h ih =>
    refine ⟨fun p s σ H vs us Q I r ⟨Γ, G, ds, Γ', o, rr, e, q⟩ => (pgs_cons (pg_name (i := i) hN hi hx hf) ih hs).run p s σ H vs us Q I r ?_⟩
    cases rr with
    | nil => cases e
    | cons h1 h2 =>
      obtain ⟨o2, s2⟩ := o.bind (i := i) h1
      exact ⟨_, _, rfl, _, G, _, Γ', o2, h2, e, fun σ' o3 s3 w3 => q σ' o3 (fun a z => s2 a (s3 a z)) fun vs h => by
        rw [w3 vs fun j hj => h j (List.mem_cons_of_mem _ hj), wipe_same (h i List.mem_cons_self)]⟩
theorem bAll_len : ∀ {is : List Nat} {ds : List D} {Γ Γ' : Env}, bAll is ds Γ = some Γ' → ds.length = is.length
  | [], [], _, _, _ => rfl
  | [], _ :: _, _, _, e => by cases e
  | _ :: _, [], _, _, e => by cases e
  | _ :: is, _ :: ds, Γ, Γ', e => congrArg (· + 1) (bAll_len (is := is) (ds := ds) e)
theorem sndg_tup {es : List Expr} {is : List Nat} {k : Nat} {pos : Pos} {n : Nat} (hc : X.calm = true) (hN : X.N.Nodup) (h : SndGs X es is) (hl : is.length = n) (hn : (assignEach es X.env).length = n := by rfl) (hst : (assignEach es X.env).findIdx? (·.1) = none := by rfl) : SndG X (.Tuple es k pos) is (bTup is) :=
  pgimp (pg_tup hc (pgs_of hN h) hn hst) fun v σ H Q ⟨Γ, G, d, Γ', o, r, e, q⟩ => by
    unfold bTup at e
    split at e
    · rename_i ds
      cases r with
      | tup ha rr => exact ⟨_, _, rfl, .of (o.good.tup ha), by rw [rr.length, bAll_len e, hl], Γ, G, ds, Γ', o, rr, e, q⟩
    · cases e
end
/-! ### range, enumerate, reversed -/
def iRange (f : Ev) : EvI := fun Γ => match f Γ with
  | .ok _ (.int j) => if -(2 ^ 62) ≤ j ∧ j < 2 ^ 62 then .ok ((List.range j.toNat).map fun (i : Nat) => .int (0 + i)) else .stuck
  | .err x => .err x
  | _ => .stuck
def numbered : Nat → List D → List D
  | _, [] => []
  | n, d :: ds => .tuple [.int n, d] :: numbered (n + 1) ds
def iEnum (f : Ev) : EvI := fun Γ => match eDat f Γ with
  | .ok _ (.list ds) => .ok (numbered 0 ds)
  | .err x => .err x
  | _ => .stuck
def iRev (f : Ev) : EvI := fun Γ => match eDat f Γ with
  | .ok _ (.list ds) => .ok ds.reverse
  | .err x => .err x
  | _ => .stuck
theorem numbered_get : ∀ (ds : List D) (n i : Nat), (numbered n ds)[i]? = (ds[i]?).map fun d => PyData.tuple [.int ((n + i : Nat) : Int), d]
  | [], n, i => by simp [numbered]
  | d :: ds, n, 0 => by simp [numbered]
  | d :: ds, n, i + 1 => by
    show (numbered (n + 1) ds)[i]? = _
    rw [numbered_get ds (n + 1) i, show n + 1 + i = n + (i + 1) by omega]
    rfl
theorem numbered_len : ∀ (ds : List D) (n : Nat), (numbered n ds).length = ds.length
  | [], _ => rfl
  | _ :: ds, n => congrArg (· + 1) (numbered_len ds (n + 1))
/-- data that is a list stands as one -/
theorem rep_list {K : PySem.W.Frag} {G : Hp} {v : V} {ds : List D} (r : Rep K G v (.list ds)) : ∃ a xs, v = .ref a ∧ Reps K G xs ds ∧ ∀ G1 H1, Sub G G1 → Good G1 H1 → SqL K H1 a xs := by
  cases r with
  | @lst a xs _ ha rr => exact ⟨a, xs, rfl, rr, fun G1 H1 s g => .inl (g.rdl (s _ _ ha))⟩
  | @stat a ns ha =>
    refine ⟨a, _, rfl, Reps.ints ns, fun G1 H1 _ _ => ?_⟩
    rcases ha with ha | ha
    · rcases ha with ha | ⟨ob, ha⟩ <;> cases ha
    · exact .inr ha
section
variable {X : Cx} {ca : String → Addr} {W : WX} {e : Expr} {f : Ev} {p pos : Pos}
theorem dat_mode {f : Ev} {Γ : Env} {m : Md} {d : D} (e : eDat f Γ = .ok m d) : m = .dat := by
  unfold eDat Out.dat at e
  split at e <;> first | (cases e; rfl) | cases e | skip
  · rename_i o z1 z2
    cases m with
    | dat => rfl
    | own => exact absurd e (z1 d)
    | bor => exact absurd e (z2 d)
theorem sndi_range {tg : Expr} (h : Snd X ca W e f) (hg : Gl X "range") (hm : X.mg "range" = none) (hs : starEach [e] X.env = (false, eval e X.env) :: starEach [] X.env := by rfl) (hs2 : starEach [e] X.env = [(false, eval e X.env)] := by rfl) : SndI X ca W tg (.Call (.Name "range" p) [e] [] pos) (iRange f) := fun Γ =>
  piimp (pi_range1 hg hm (pa_cons (h Γ) pa_nil hs) hs2) fun σ H R ⟨G, o, q⟩ => ⟨G, o, by
    unfold iRange at q
    revert q
    cases e1 : f Γ with
    | stuck => exact fun q => q
    | err x => exact fun q => q
    | ok m d =>
      cases d with
      | int j =>
        intro q v G' H' s r n
        dsimp only at q
        by_cases c : -(2 ^ 62) ≤ j ∧ j < 2 ^ 62
        · rw [if_pos c] at q
          cases r.view.int
          exact ⟨j, rfl, c.1, c.2, q _ G' H' s src_range⟩
        · rw [if_neg c] at q; exact False.elim q
      | _ => exact fun q => False.elim q⟩
theorem sndi_enum {elts : List Expr} {kk : Nat} {tpos : Pos} (h : Snd X ca W e f) (hg : Gl X "enumerate") (hm : X.mg "enumerate" = none) (hs : starEach [e] X.env = (false, eval e X.env) :: starEach [] X.env := by rfl) (hs2 : starEach [e] X.env = [(false, eval e X.env)] := by rfl) :
    SndI X ca W (.Tuple elts kk tpos) (.Call (.Name "enumerate" p) [e] [] pos) (iEnum f) := fun Γ =>
  piimp (pi_enum hg hm (pa_cons (snd_dat h Γ) pa_nil hs) hs2) fun σ H R ⟨G, o, q⟩ => ⟨G, o, by
    unfold iEnum at q
    revert q
    cases e1 : eDat f Γ with
    | stuck => exact fun q => q
    | err x => exact fun q => q
    | ok m d =>
      cases dat_mode e1
      cases d with
      | list ds =>
        intro q v G' H' s r n
        obtain ⟨a, xs, rfl, rr, hs⟩ := rep_list r
        refine ⟨a, xs, rfl, hs G' H' .refl s.good, q _ G' H' s fun i G1 H1 s1 _ g1 => ?_⟩
        have hl := hs G1 H1 s1 g1
        refine ⟨fun hi => ?_, fun hi => ⟨xs, hl, by rw [rr.length]; rw [numbered_len] at hi; exact hi⟩⟩
        rw [numbered_len] at hi
        obtain ⟨d, hd⟩ : ∃ d, ds[i]? = some d := ⟨ds[i], List.getElem?_eq_getElem hi⟩
        obtain ⟨x, hx, rx⟩ := rr.get hd
        refine ⟨⟨xs, x, hl, hx⟩, fun y H2 ⟨T, x', ey, nT, eH, hy⟩ => ?_⟩
        have hx' := hy xs hl
        rw [hx] at hx'
        cases hx'
        subst ey eH
        refine new_tup (K := X.K) (Q := fun v H2 => ∃ G2, Stp G1 H1 G2 H2 ∧ ∀ d, (numbered 0 ds)[i]? = some d → Rep X.K G2 v d) g1 (fun v G2 H2 s2 r2 _ => ⟨G2, s2, fun d2 h2 => ?_⟩) (.cons (.int (i : Nat)) (.cons (rx.mono s1) .nil)) nT
        rw [numbered_get, hd, Nat.zero_add] at h2
        cases h2
        exact r2
      | _ => exact fun q => False.elim q⟩
theorem sndi_rev {tg : Expr} (h : Snd X ca W e f) (hg : Gl X "reversed") (hm : X.mg "reversed" = none) (hs : starEach [e] X.env = (false, eval e X.env) :: starEach [] X.env := by rfl) (hs2 : starEach [e] X.env = [(false, eval e X.env)] := by rfl) :
    SndI X ca W tg (.Call (.Name "reversed" p) [e] [] pos) (iRev f) := fun Γ =>
  piimp (pi_reversed hg hm (pa_cons (snd_dat h Γ) pa_nil hs) hs2) fun σ H R ⟨G, o, q⟩ => ⟨G, o, by
    unfold iRev at q
    revert q
    cases e1 : eDat f Γ with
    | stuck => exact fun q => q
    | err x => exact fun q => q
    | ok m d =>
      cases dat_mode e1
      cases d with
      | list ds =>
        intro q v G' H' s r n
        obtain ⟨a, xs, rfl, rr, hs⟩ := rep_list r
        refine ⟨a, xs, rfl, hs G' H' .refl s.good, q _ G' H' s fun i G1 H1 s1 _ g1 => ?_⟩
        have hl := hs G1 H1 s1 g1
        have el := rr.length
        refine ⟨fun hi => ?_, fun hi => by show xs.length ≤ i; rw [List.length_reverse] at hi; omega⟩
        rw [List.length_reverse] at hi
        have hj : ds.length - 1 - i < ds.length := by omega
        obtain ⟨d, hd⟩ : ∃ d, ds[ds.length - 1 - i]? = some d := ⟨ds[ds.length - 1 - i], List.getElem?_eq_getElem hj⟩
        obtain ⟨x, hx, rx⟩ := rr.get hd
        have hx2 : xs[xs.length - 1 - i]? = some x := by rw [el]; exact hx
        refine ⟨⟨by omega, xs, x, hl, hx2⟩, fun y H2 ⟨e2, hy⟩ => ⟨G1, by rw [e2]; exact .refl g1, fun d2 h2 => ?_⟩⟩
        have hx' := hy xs hl
        rw [hx2] at hx'
        cases hx'
        rw [List.getElem?_reverse hi, hd] at h2
        cases h2
        exact rx.mono s1
      | _ => exact fun q => False.elim q⟩
end
/-! ### for -/
def loopS (b : Bd) (f : Ss) : List D → Ss
  | [], Γ => .nx Γ
  | d :: ds, Γ => match b d Γ with
    | none => .stuck
    | some Γ1 => (match f Γ1 with
      | .nx Γ2 => loopS b f ds Γ2
      | o => o)
def sFor (fi : EvI) (b : Bd) (f : Ss) : Ss := fun Γ => match fi Γ with
  | .ok ds => loopS b f ds Γ
  | .err x => .err x
  | .stuck => .stuck
def tAny (K : PySem.W.Frag) (ca : String → Addr) (W : WX) (f : Ss) : TS := fun D σ H => ∃ Γ, tS K ca W f Γ D σ H
section
variable {X : Cx} {ca : String → Addr} {W : WX} {tg iter : Expr} {body : List Stmt} {fi : EvI} {is : List Nat} {b : Bd} {f : Ss} {pos : Pos}
theorem own_none {K : PySem.W.Frag} {G H : Hp} {Γ : Env} {σ : St} (o : StOk K G H Γ σ) {a : Addr} (h : Own Γ σ a) : G a = none := by
  obtain ⟨i, d, e1, e2⟩ := h
  obtain ⟨c, u, e3, _, g, _⟩ := o.slot i _ e1
  rw [e2] at e3; cases e3
  exact g
theorem snds_for (hp : PassesOwn (model X.prog X.w) X.A X.env X.xe) (hc : X.calm = true) (hi : SndI X ca W tg iter fi) (hg : SndG X tg is b) (hb : SndB X ca W body f) (hs : ∀ x, foldedSetIterable iter X.env x = pure x := by intro _; rfl) :
    SndS X ca W (.For tg iter body [] pos) (sFor fi b f) := fun Γ => by
  have hb' : PSs X body (tAny X.K ca W f) := ⟨fun p s σ H D I ⟨Γ', q⟩ => (hb Γ').run p s σ H D I q⟩
  refine psimp (ps_for hp hc (hi Γ) hg hb' hs) fun D σ H ⟨G, o, q⟩ => ⟨G, o, ?_⟩
  unfold sFor at q
  revert q
  cases e : fi Γ with
  | stuck => exact fun q => q
  | err x => exact fun q c dx G' H' s r => q c dx σ G' H' _ s.s s.good r
  | ok ds =>
    intro q J G1 H1 s1 src
    have q1 : FinS X.K ca W G1 H1 (Own Γ σ) D (loopS b f ds Γ) := FinS.later s1.s q
    have o1 := o.mono s1
    obtain ⟨R, hR⟩ : ∃ R, loopS b f ds Γ = R := ⟨_, rfl⟩
    rw [hR] at q1
    refine ⟨fun i m σ' H' => i + m = ds.length ∧ ∃ G' Γ', StOk X.K G' H' Γ' σ' ∧ SStp G1 H1 (Own Γ σ) G' H' (Own Γ' σ') ∧ loopS b f (ds.drop i) Γ' = R,
      ⟨ds.length, by omega, G1, Γ, o1, .refl, hR⟩, fun i m σ' H' ⟨em, G', Γ', o', s', el⟩ => ?_⟩
    have kd : KeepD G1 H1 H' := fun a u ga ha => s'.keep a u ha fun z => ga (own_none o1 z)
    obtain ⟨go, stop⟩ := src i G' H' s'.sub kd o'.good
    by_cases hi : i < ds.length
    · obtain ⟨g1, yl⟩ := go hi
      refine .inr ⟨g1, fun σ2 H2 => ∃ G2 Γ2, StOk X.K G2 H2 Γ2 σ2 ∧ SStp G1 H1 (Own Γ σ) G2 H2 (Own Γ2 σ2) ∧ loopS b f (ds.drop (i + 1)) Γ2 = R, fun σ2 H2 ⟨G2, Γ2, o2, s2, e2⟩ => ⟨m - 1, by omega, by omega, G2, Γ2, o2, s2, e2⟩, fun x H2 hy => ?_⟩
      obtain ⟨G2, s2, rx⟩ := yl x H2 hy
      have o2 := o'.mono s2
      have hd : ds.drop i = ds[i] :: ds.drop (i + 1) := List.drop_eq_getElem_cons hi
      rw [hd] at el
      have rx' := rx ds[i] (List.getElem?_eq_getElem hi)
      have q2 : FinS X.K ca W G2 H2 (Own Γ' σ') D (loopS b f (ds[i] :: ds.drop (i + 1)) Γ') := by
        rw [el]; exact FinS.later (s'.trans s2.s) q1
      unfold loopS at q2 el
      cases eb : b ds[i] Γ' with
      | none => rw [eb] at q2; exact False.elim q2
      | some Γ3 =>
        rw [eb] at q2 el
        refine ⟨Γ', G2, ds[i], Γ3, o2, rx', eb, fun σ3 o3 s3 _ => ⟨Γ3, G2, o3, ?_⟩⟩
        have st3 : SStp G2 H2 (Own Γ' σ') G2 H2 (Own Γ3 σ3) := ⟨fun _ _ e _ => e, fun _ h => h, .refl, fun _ h => .inl h, fun a h => .inl (s3 a h)⟩
        have q3 := FinS.later st3 q2
        dsimp only at q3 el
        revert q3 el
        cases ef : f Γ3 with
        | stuck => exact fun _ q3 => q3
        | err x => exact fun _ q3 => q3
        | ret m d => exact fun _ q3 => q3
        | nx Γ4 => exact fun el q3 σ4 G4 H4 s4 o4 => ⟨G4, Γ4, o4, (s'.trans s2.s).trans (st3.trans s4), el⟩
    · refine .inl ⟨stop (by omega), ?_⟩
      rw [List.drop_eq_nil_of_le (by omega)] at el
      have q2 := FinS.later s' q1
      rw [← el] at q2
      exact q2 σ' G' H' .refl o'
end
/-! ### list comprehensions -/
def wipeE (Γ : Env) : List Nat → Env
  | [] => Γ
  | v :: vs => (wipeE Γ vs).set v .un
inductive OutL where
  | ok (l : List D)
  | err (x : Exn)
  | stuck
def compL (b : Bd) (t e : Ev) (Γ : Env) : List D → OutL
  | [] => .ok []
  | d :: ds => match b d Γ with
    | none => .stuck
    | some Γ1 => (match t Γ1 with
      | .ok _ (.bool true) => (match eDat e Γ1 with
        | .ok _ y => (match compL b t e Γ ds with
          | .ok l => .ok (y :: l)
          | .err x => .err x
          | .stuck => .stuck)
        | .err x => .err x
        | .stuck => .stuck)
      | .ok _ (.bool false) => compL b t e Γ ds
      | _ => .stuck)
def eLC (vs : List Nat) (fi : EvI) (b : Bd) (t e : Ev) : Ev := fun Γ => match fi Γ with
  | .ok ds => if ds.length ≤ 1000 then (match compL b t e (wipeE Γ vs) ds with
    | .ok l => .ok .own (.list l)
    | .err x => .err x
    | .stuck => .stuck) else .stuck
  | .err x => .err x
  | .stuck => .stuck
def eYes : Ev := fun _ => oB true
def tTAny (K : PySem.W.Frag) (ca : String → Addr) (W : WX) (f : Ev) : TT := fun σ H Q => ∃ Γ, tT K ca W f Γ σ H Q
def tEAny (K : PySem.W.Frag) (ca : String → Addr) (W : WX) (f : Ev) : TE := fun σ H Q => ∃ Γ, tE K ca W f Γ σ H Q
abbrev WF : WX := fun _ _ _ _ => False
def SndTs (X : Cx) (ca : String → Addr) (W : WX) (ifs : List Expr) (f : Ev) : Prop := ∀ Γ, PTs X ifs (tT X.K ca W f Γ)
theorem sndts_nil {X : Cx} {ca : String → Addr} {W : WX} : SndTs X ca W [] eYes := fun Γ => ⟨fun p s σ H Q I ⟨G, o, q⟩ => pts_nil.run p s σ H Q I (q G H (.refl o.good))⟩
theorem sndts_one {X : Cx} {ca : String → Addr} {W : WX} {c : Expr} {f : Ev} (h : SndT X ca W c f) : SndTs X ca W [c] f := fun Γ => pts_one (h Γ)
theorem wipe_ok {K : PySem.W.Frag} {G H : Hp} {Γ : Env} {σ : St} (o : StOk K G H Γ σ) : ∀ vs : List Nat, StOk K G H (wipeE Γ vs) (wipe σ vs) ∧ ∀ a, Own (wipeE Γ vs) (wipe σ vs) a → Own Γ σ a
  | [] => ⟨o, fun _ h => h⟩
  | v :: vs => by
    obtain ⟨o1, s1⟩ := wipe_ok o vs
    have key : ∀ {j : Nat} {d : PyData}, ((wipeE Γ vs).set v SV.un)[j]? = some (SV.own d) → v ≠ j ∧ (wipeE Γ vs)[j]? = some (SV.own d) := fun {j d} e => by
      rcases set_get e with ⟨_, z, _⟩ | z
      · cases z
      · exact z
    refine ⟨⟨o1.good, by unfold wipeE wipe; rw [List.length_set, List.length_set]; exact o1.len, fun i sv e => ?_, fun i j d1 d2 a e1 e2 e3 e4 => ?_⟩, fun a ⟨i, d, e1, e2⟩ => ?_⟩
    · unfold wipeE at e
      unfold wipe
      rcases set_get e with ⟨_, rfl, _⟩ | ⟨hj, e⟩
      · trivial
      · rw [List.getElem?_set_ne hj]
        exact o1.slot i sv e
    · unfold wipeE at e1 e2
      unfold wipe at e3 e4
      obtain ⟨h1, e1⟩ := key e1
      obtain ⟨h2, e2⟩ := key e2
      rw [List.getElem?_set_ne h1] at e3
      rw [List.getElem?_set_ne h2] at e4
      exact o1.dist i j d1 d2 a e1 e2 e3 e4
    · unfold wipeE at e1
      unfold wipe at e2
      obtain ⟨h1, e1⟩ := key e1
      rw [List.getElem?_set_ne h1] at e2
      exact s1 a ⟨i, d, e1, e2⟩
end Vb
/-! Vk: a list comprehension whose element raises: the exception leaves the block, the frame notes it, it flies on in the def's own air (the statements follow the kit's lc_core, with another wish about exceptions). -/
namespace Vb
open PySem PySem.Spec PyProof.Rows L2
theorem note_congr {e : Value} {a b : PySem.Env} (h : a.frame = b.frame) : noteFrame e a = noteFrame e b := by
  unfold noteFrame PySem.frameOf
  rw [h]
theorem funFrames_but {base B h h' : Heap} : ∀ {l : List PySem.Env}, h.FunFrames base l → (∀ L ∈ frs l, ∀ o, h.get? L = some o → h'.get? L = some o) → (∀ L ∈ frs l, B.get? L = none) → h'.FunFrames B l
  | [], _, _, _ => trivial
  | env :: l, h0, k, hn => by
    obtain ⟨hk, ⟨L, o, hf, _, ho, hd⟩, hr⟩ := h0
    have hL : L ∈ frs (env :: l) := List.mem_filterMap.mpr ⟨env, List.mem_cons_self, hf⟩
    have sub : ∀ b ∈ frs l, b ∈ frs (env :: l) := fun b hb => by
      obtain ⟨e, he, q⟩ := List.mem_filterMap.mp hb
      exact List.mem_filterMap.mpr ⟨e, List.mem_cons_of_mem _ he, q⟩
    exact ⟨hk, ⟨L, o, hf, hn L hL, k L hL o ho, hd⟩, funFrames_but hr (fun b hb => k b (sub b hb)) fun b hb => hn b (sub b hb)⟩
section
variable {X : Cx} {W : WX} {pins : List (Addr × Obj)} {σ : St} {H : Hp} {s : Shared} {C : Addr}
/-- an exception of a call in the block -/
theorem noted_out {m : Str → Option Value} (hs : X.stack = X.env :: X.outer) (hf : X.env.frame = some X.env.locals) (tk : Takes X W) (I : Inv X pins σ H s) (f : FpOk X pins H C) (hn : s.heap.Ns C m)
    {E : XK} (hW : ∀ cls d H', E cls d H' → W cls d σ H') {ce : PySem.Env} (hce : ce.frame = X.env.frame) {u : Value} {s' : Shared} (c : CX X.prog X.w X.stack H s E u s') {E2 : Value → Shared → Prop} {α : Type} :
    wpAny (model X.prog X.w) X.A (noteFrame u ce) (fun _ s2 => ∃ m, s2.heap.Ns C m ∧ ∀ h', Heap.SameBut C s2.heap h' →
      wpAny (model X.prog X.w) X.A (passOn "comprehension.variables-let-go" u ce : Sem α) (fun _ _ => False) X.xe { s2 with heap := h' }) E2 s' := by
  obtain ⟨a, B, H', cls, d, rfl, fl, hok, ub, na, os, ag, hE⟩ := c
  obtain ⟨f0, f1, f2, f3, f4, f5⟩ := f
  have hfr : X.A.frames = some (X.env :: X.outer) := by rw [I.ok.frames, hs]
  have hCf : C ∉ frs X.stack := fun hm => by
    rcases List.mem_cons.mp (I.stkSub C hm) with z | z
    · exact f1 z
    · exact f2 z
  obtain ⟨oC, es, ep, hoC, hdC, hkC⟩ := hn
  have hBC : B.get? C = some oC := ub.keep C oC hoC f0 hCf
  have H'C : H' C = none := ub.free C oC hoC f0
  rw [note_congr hce]
  have fl0 := fl
  rw [hs] at fl
  refine HandSPX.looks_onZ Zc.steady hfr hf fl fun h2 held up2 => ?_
  have h2C : h2.get? C = some oC := held.1 C oC hBC
  refine ⟨m, ⟨oC, es, ep, h2C, hdC, hkC⟩, fun h3 sb => ?_⟩
  obtain ⟨st2, ha2, ff2, oe, vs, T, oT, ts, he, hz, hd, h1, hnT, hTe, hT, hdT, h3T⟩ := held
  have neC : ∀ {b : Addr} {o : Obj} {vs : Array Value}, h2.get? b = some o → o.data = .fields vs → b ≠ C := fun {b o vs} e q z => by
    rw [z, h2C] at e; cases e
    rw [hdC] at q; cases q
  have keep3 : ∀ {b : Addr} {o : Obj}, b ≠ C → h2.get? b = some o → h3.get? b = some o := fun {b o} hb e => (sb.2 b hb).trans e
  obtain ⟨B3, hB3⟩ : ∃ B3, B3 = PySem.W.hideAll B [C] := ⟨_, rfl⟩
  have B3B : ∀ b o, B3.get? b = some o → B.get? b = some o := fun b o e => by rw [hB3] at e; exact PySem.W.of_hideAll _ e
  have BB3 : ∀ b o, B.get? b = some o → b ≠ C → B3.get? b = some o := fun b o e hb => by rw [hB3]; exact PySem.W.hideAll_get _ e (by simpa using hb)
  have B3C : B3.get? C = none := by rw [hB3]; exact PySem.W.hideAll_none _ (by simp)
  have none3 : ∀ b, B.get? b = none → B3.get? b = none := fun b e => by
    cases q : B3.get? b with
    | none => rfl
    | some o => rw [B3B b o q] at e; cases e
  have st3 : B3.StaysIn h3 := fun b o e => keep3 (fun z => by rw [z, B3C] at e; cases e) (st2 b o (B3B b o e))
  have frC : ∀ L ∈ frs (X.env :: X.outer), L ≠ C := fun L hL z => hCf (by rw [hs, ← z]; exact hL)
  have held3 : HandSPX.HeldZ B3 (X.env :: X.outer) a (Zc cls d) X.env.locals h3 :=
    ⟨st3, none3 a ha2, funFrames_but ff2 (fun L hL o e => keep3 (frC L hL) e) fun L hL => none3 L (ff2.mem hL).1,
      oe, vs, T, oT, ts, keep3 (neC he hd) he, hz, hd, h1, none3 T hnT, hTe, keep3 (neC hT hdT) hT, hdT, h3T⟩
  unfold PySem.passOn
  refine wpAny_bind (wpAny_field (keep3 (neC he hd) he) hd h1 ?_)
  rw [if_neg (show ¬ ((Value.ref T == Value.none) = true) from by simp)]
  have fin : wpAny (model X.prog X.w) X.A (setFlight (.ref a) ce.frame) (fun _ s4 => wpAny (model X.prog X.w) X.A (throw (.ref a) : Sem α) (fun _ _ => False) X.xe s4) X.xe { s' with heap := h3 } := by
    rw [hce, hf]
    refine HandSPX.setFlight_onZ held3 fun h4 hh4 up4 => wpAny_throw (tk _ _ ?_)
    -- the state without it
    have st4 : B3.StaysIn h4 := hh4.1
    obtain ⟨G, g1, g2⟩ := restrict h4 fun b => (B3.get? b).isSome || decide (b ∈ frs X.stack)
    have gB : ∀ b o, B3.get? b = some o → G.get? b = some o := fun b o e => by
      rw [g1 b (by simp [e])]
      exact st4 b o e
    have gF : ∀ b, b ∈ frs X.stack → G.get? b = h4.get? b := fun b hb => g1 b (by simp [hb])
    have og : ∀ b o, G.get? b = some o → h4.get? b = some o ∧ ((B3.get? b).isSome = true ∨ b ∈ frs X.stack) := fun b o e => by
      cases q : ((B3.get? b).isSome || decide (b ∈ frs X.stack)) with
      | false => rw [g2 b q] at e; cases e
      | true =>
        rw [g1 b q] at e
        exact ⟨e, by simpa [Bool.or_eq_true] using q⟩
    have slot : ∀ b o, s.heap.get? b = some o → b ∈ frs X.stack → ∃ sl, h4.get? b = some { o with slots := sl } := fun b o e hb => by
      obtain ⟨sl, q⟩ := ub.slot b o e hb
      obtain ⟨_, o', e', hnf⟩ := I.stack.mem hb
      rw [e] at e'; cases e'
      obtain ⟨sl2, q2⟩ := up2 b _ q hnf
      have hbC : b ≠ C := fun z => hCf (z ▸ hb)
      obtain ⟨sl4, q4⟩ := up4 b _ (keep3 hbC q2) hnf
      exact ⟨sl4, q4⟩
    have hok3 : HOk X.prog X.w H' B3 := fun b o q => (hok b o q).stay (fun c u hc r => BB3 c u r fun z => by
      rcases hc with hc | hc
      · rw [← hc, z, H'C] at q; cases q
      · rw [z, H'C] at hc; cases hc) (fun _ r => r) fun _ _ r => r
    refine ⟨a, B3, { s with heap := G, gens := s'.gens, drawn := s'.drawn, toks := s'.toks }, pins, σ, H', cls, d, rfl, ?_, fun b o e hb => ?_, Heap.UpToSlots.of_keeps fun b o e => (og b o e).1, .inr (.inr (by rw [hs]; exact hh4)), na, os, ag, hW _ _ _ hE⟩
    · refine I.call (ch := [C]) ⟨fun b o e n hb hc => gB b o (BB3 b o (ub.keep b o e n hb) (by simpa using hc)), fun b o e n hb _ => ?_, fun b o e n _ => ub.free b o e n, fun b o e hc => ?_, ub.tups, ub.frzs, ub.tbls⟩ (hok3.kept gB) ag (fun b hb => ?_)
      · obtain ⟨sl, q⟩ := slot b o e hb
        exact ⟨sl, by rw [gF b hb]; exact q⟩
      · by_cases hb : b ∈ frs X.stack
        · obtain ⟨sl, q⟩ := slot b o e hb
          exact ⟨_, by rw [gF b hb]; exact q⟩
        · obtain ⟨o', q⟩ := ub.there b o e hb
          exact ⟨o', gB b o' (BB3 b o' q (by simpa using hc))⟩
      · have e : b = C := by simpa using hb
        subst e
        exact ⟨f3, f1, f4, f5⟩
    · obtain ⟨e', h⟩ := og b o e
      rcases h with h | h
      · obtain ⟨o', q⟩ := Option.isSome_iff_exists.mp h
        have z := st4 b o' q
        rw [e'] at z; cases z
        exact q
      · exact absurd h hb
  first
    | exact wpAny_bind (wpAny_pure (wpAny_bind fin))
    | exact wpAny_bind fin
end
/-! ### the block -/
/-- behind the block: the exception is known to be the block's -/
def compPostE (M : Model) (A : Around) (E : Value → Shared → Prop) (use : Option (Value → Sem Unit)) (Q : Value → Shared → Prop) (acc : Value) (ce : PySem.Env) (r : Result) (s' : Shared) : Prop :=
  match r, use with
  | .ok _, none => ∃ m, s'.heap.Ns ce.locals m ∧ ∀ h', Heap.SameBut ce.locals s'.heap h' → Q acc { s' with heap := h' }
  | .ok _, some u => wpAny M A (u acc) (fun _ s'' => ∃ m, s''.heap.Ns ce.locals m ∧ ∀ h', Heap.SameBut ce.locals s''.heap h' → Q .none { s'' with heap := h' }) E s'
  | .error x, _ => ∃ m, s'.heap.Ns ce.locals m ∧ ∀ h', Heap.SameBut ce.locals s'.heap h' → wpAny M A (passOn "comprehension.variables-let-go" x ce : Sem Value) (fun _ _ => False) E { s' with heap := h' }
theorem comp_free {M : Model} {A : Around} {E : Value → Shared → Prop} {s : Shared} {env : PySem.Env} {e : Expr} {scope : Scope} {pos : Pos} {newAcc first : Sem Value} {g : Comprehension} {gs : List Comprehension} {cl : List (Str × Addr)} {use : Option (Value → Sem Unit)}
    {Q : Value → Shared → Prop} (hcl : clausesOf e = g :: gs) (hs : ∀ x, foldedSetIterable g.iter env x = pure x) (hclos : closureFor scope env = pure cl)
    (hkind : scope.kind = .function) (hnames : ∀ x ∈ scope.names, x.2 = .local → scope.names.lookup x.1 = some .local)
    (h : wpAny M A first (fun x s₁ => wpAny M A (pyIter x) (fun it s₂ => wpAny M A newAcc (fun acc s₃ =>
      wpAny M A (newFunctionEnv scope env.globals cl [] env.qual none .none (some env)) (fun cenv s₄ =>
        codeAny M A (.compStart e 0 it acc { cenv with scope := relabel scope env }) (compPostE M A E use Q acc { cenv with scope := relabel scope env }) s₄) E s₃) E s₂) E s₁) E s) :
    wpAny M A (comprehension e scope env pos newAcc false first use) Q E s := by
  unfold comprehension
  rw [hclos, hcl]
  refine wpAny_bind (wpAny_mono h (fun x s₁ h₁ => wpAny_bind (wpAny_standAt (wpAny_bind (wpAny_of_eq (hs x) (wpAny_bind (wpAny_holding (wpAny_mono h₁ (fun it s₂ h₂ =>
    wpAny_standIf (wpAny_bind (wpAny_mono h₂ (fun acc s₃ h₃ => wpAny_bind (wpAny_pure (wpAny_bind (wpAny_mono h₃ (fun cenv s₄ h₄ => ?_) fun _ _ h' => h')))) fun _ _ h' => h')))
      fun _ _ h' => h'))))))) fun _ _ h' => h')
  dsimp only
  have hv : ∀ x ∈ (scope.names.filter fun x => (x.2 == .local || x.2 == .cell) && x.1 != (".0" : Str)).reverse, x.2 = .local →
      Env.kindOf { cenv with scope := relabel scope env } x.1 = some .local := fun x hx hl => lookup_relabel_local (hnames x (List.mem_filter.mp (List.mem_reverse.mp hx)).1 hl)
  have hv' : ∀ x ∈ (scope.names.filter fun x => (x.2 == .local || x.2 == .cell) && x.1 != (".0" : Str)).reverse.drop 1 ++ (scope.names.filter fun x => (x.2 == .local || x.2 == .cell) && x.1 != (".0" : Str)).reverse.take 1,
      x.2 = .local → Env.kindOf { cenv with scope := relabel scope env } x.1 = some .local := fun x hx hl => by
    rcases List.mem_append.mp hx with h1 | h1
    · exact hv x (List.mem_of_mem_drop h1) hl
    · exact hv x (List.mem_of_mem_take h1) hl
  refine wpAny_holding (wpAny_bind (wpAny_attempt (wpAny_holding (wpAny_run (codeAny_mono h₄ fun r s' hr => ?_)))))
  cases r with
  | ok f =>
    cases use with
    | none =>
      obtain ⟨m, hn, hr⟩ := hr
      exact wpAny_bind (wpAny_holding (wpAny_comp_letGo (cenv := { cenv with scope := relabel scope env }) hkind _ s' m hv hn fun h' m' _ hs' => wpAny_pure (hr h' hs')))
    | some u =>
      refine wpAny_bind (wpAny_rule (wpAny_bind (wpAny_holding (wpAny_mono hr (fun _ s'' hr' => ?_) fun _ _ h' => h'))))
      obtain ⟨m, hn, hr'⟩ := hr'
      exact wpAny_bind (wpAny_comp_letGo (cenv := { cenv with scope := relabel scope env }) hkind _ s'' m hv' hn fun h' m' _ hs' => wpAny_pure (hr' h' hs'))
  | error x =>
    have hr' : ∃ m, s'.heap.Ns cenv.locals m ∧ ∀ h', Heap.SameBut cenv.locals s'.heap h' → wpAny M A (passOn "comprehension.variables-let-go" x { cenv with scope := relabel scope env } : Sem Value) (fun _ _ => False) E { s' with heap := h' } := by cases use <;> exact hr
    obtain ⟨m, hn, hr⟩ := hr'
    exact wpAny_bind (wpAny_holding (wpAny_comp_letGo (cenv := { cenv with scope := relabel scope env }) hkind _ s' m hv hn fun h' m' _ hs' => wpAny_mono (hr h' hs') (fun _ _ f => f.elim) fun _ _ y => y))
/-- [elt for target in iter if ..]: as the kit's tLc, the element's reading by the slots at the entry -/
def tLcE (wi : TI) (g : TG) (tt : TT) (te : St → TE) (vs : List Nat) : TE := fun σ H Q => wi σ H fun J H1 => ∀ D, H1 D = none → ∃ W : Nat → Nat → Hp → Prop, (∃ m, W 0 m (upd H1 D (.lst []))) ∧ ∀ i m H, W i m H →
  (J.stop i H ∧ Q (.ref D) H) ∨ (J.go i H ∧ ∃ Nx : Hp → Prop, (∀ H', Nx H' → ∃ m', m' < m ∧ W (i + 1) m' H') ∧ ∀ x H', J.yld i H x H' → g x (wipe σ vs) H' fun σ2 H2 => wipe σ2 vs = wipe σ vs ∧ tt σ2 H2 fun b H3 =>
    if b = true then te σ σ2 H3 fun y H4 => ∃ acc, H4 D = some (.lst acc) ∧ acc.length < sizeLine ∧ Nx (upd H4 D (.lst (acc ++ [y]))) else Nx H3)
theorem lc_coreE {X : Cx} {W : WX} {pins : List (Addr × Obj)} {s : Shared} {σ : St} {H : Hp} {Q : VK} {elt tg iter : Expr} {ifs : List Expr} {scope : Scope} {own : List (Str × Nat)} {pos pos' : Pos} {wi : TI} {g : TG} {tt : TT} {te : St → TE} {use : Option (Value → Sem Unit)} {Qf : Value → Shared → Prop}
    (hst : X.stack = X.env :: X.outer) (hfr : X.env.frame = some X.env.locals) (tk : Takes X W) (hc : X.calm = true) (hN : X.N.Nodup) (I : Inv X pins σ H s) (hi : PI X tg iter wi) (ok : BlkOk X.N X.env.scope scope own)
    (hg : ∀ (s : Shared) (H : Hp) (C : Addr) (cl : List (Str × Addr)) (fp : List Addr), PG (X.blk s H scope (compEnvC scope cl C X.env) fp) tg g) (ht : ∀ (s : Shared) (H : Hp) (C : Addr) (cl : List (Str × Addr)) (fp : List Addr), PTs (X.blk s H scope (compEnvC scope cl C X.env) fp) ifs tt)
    (he : ∀ (s : Shared) (H : Hp) (C : Addr) (cl : List (Str × Addr)) (fp : List Addr) (E : Value → Shared → Prop), Lets ((X.blk s H scope (compEnvC scope cl C X.env) fp).wish E) (fun c dx _ H' => W c dx σ H') → PE ((X.blk s H scope (compEnvC scope cl C X.env) fp).wish E) elt (te σ)) (hs : ∀ x, foldedSetIterable iter X.env x = pure x)
    (h : tLcE wi g tt te (own.map (·.2)) σ H Q)
    (hRR : ∀ D ce s' m H', Inv X pins σ H' s' → Q (.ref D) H' → s'.heap.Ns ce.locals m → FpOk X pins H' ce.locals → compPostE (model X.prog X.w) X.A X.xe use Qf (.ref D) ce (.ok .next) s') :
    wpAny (model X.prog X.w) X.A (comprehension (.ListComp elt [⟨tg, iter, ifs, 0⟩] scope pos) scope X.env pos' (newList []) false (eval iter X.env) use) Qf X.xe s := by
  have hfree : ∀ y ∈ scope.names, y.2 = .free → ∃ c, X.env.cells.lookup y.1 = some c := fun y hy e => by
    rcases ok.free y hy e with k | k
    · exact I.ok.has _ (.inl k)
    · exact I.ok.has _ (.inr k)
  refine comp_free (use := use) rfl hs (closure_ok hfree) ok.kind (fun y hy e => by rw [ok.uniq y hy, e])
    (thn (hi.run pins s σ H _ I h) fun xv s1 hx => thn hx fun itv s2 h2 => ?_)
  obtain ⟨it, fp, tn, J, H2, e, I2, T, st2, f2, q⟩ := h2
  subst e
  refine wpAny_newObj_type (newEnv_comp ?_) (by show 0 ≤ sizeLine; decide)
  generalize hD : s2.heap.objs.size = D
  have hDn : H2 D = none := I2.hok.fresh (Nat.le_of_eq hD)
  obtain ⟨Wt, ⟨m0, w0⟩, turn⟩ := q D hDn
  generalize hs3 : ({ s2 with heap := s2.heap.push { cls := .type "list", data := .seq ([] : List Value).toArray } } : Shared) = s3
  have I3 : Inv X pins σ (upd H2 D (.lst [])) s3 := by
    rw [← hs3]
    refine I2.laid (t' := s2.toks) (fun b o e => Heap.get?_push_of_some _ e) (Nat.le_of_eq hD) ⟨Nat.zero_le _, [], 0, .nil, ?_⟩
    rw [← hD]
    exact Heap.get?_push_size _ rfl
  have h3 : s3.heap = s2.heap.push { cls := .type "list", data := .seq ([] : List Value).toArray } := by rw [← hs3]
  have sz : ∀ b ∈ fp, b < s2.heap.objs.size := fun b hb => by
    obtain ⟨o, e, _⟩ := T.obj _ _ st2 b hb
    exact Heap.lt_size e
  have f3 : ∀ b ∈ fp, FpOk X pins (upd H2 D (.lst [])) b ∧ b < s3.heap.objs.size := fun b hb => by
    have hlt := sz b hb
    refine ⟨⟨?_, (f2 b hb).2⟩, by rw [h3, Heap.size_push]; exact Nat.lt_succ_of_lt hlt⟩
    rw [upd_ne (by rw [← hD]; exact Nat.ne_of_lt hlt)]
    exact (f2 b hb).1
  have st3 : tn 0 s3.heap := T.keep _ _ _ st2 fun b _ o e => by rw [h3]; exact Heap.get?_push_of_some _ e
  have I4 := block_start I3 ok hN f3
  have pg := hg s3 (upd H2 D (.lst [])) s3.heap.objs.size (cellsFrom (s3.heap.objs.size + 1) scope.names (cloFrom X.env.cells scope.names [])) fp
  have pt := ht s3 (upd H2 D (.lst [])) s3.heap.objs.size (cellsFrom (s3.heap.objs.size + 1) scope.names (cloFrom X.env.cells scope.names [])) fp
  have pe := he s3 (upd H2 D (.lst [])) s3.heap.objs.size (cellsFrom (s3.heap.objs.size + 1) scope.names (cloFrom X.env.cells scope.names [])) fp
  show codeAny _ _ (.compStart (.ListComp elt [⟨tg, iter, ifs, 0⟩] scope pos) 0 (.ref it) (.ref D) (compEnvC scope (cellsFrom (s3.heap.objs.size + 1) scope.names (cloFrom X.env.cells scope.names [])) s3.heap.objs.size X.env)) (compPostE (model X.prog X.w) X.A X.xe use Qf (.ref D) (compEnvC scope (cellsFrom (s3.heap.objs.size + 1) scope.names (cloFrom X.env.cells scope.names [])) s3.heap.objs.size X.env)) { s3 with heap := pushCells (s3.heap.push { cls := .type "dict", data := .dict #[] }) scope.names }
  have nfp : ∀ b ∈ fp, (upd H2 D (.lst [])) b = none := fun b hb => (f3 b hb).1.1
  generalize hce : compEnvC scope (cellsFrom (s3.heap.objs.size + 1) scope.names (cloFrom X.env.cells scope.names [])) s3.heap.objs.size X.env = ce at I4 pg pt pe ⊢
  have cL : ce.locals = s3.heap.objs.size := by subst hce; rfl
  have cF : ce.frame = X.env.frame := by subst hce; rfl
  generalize hH3 : upd H2 D (.lst []) = H3 at I3 I4 pg pt pe w0 nfp f3
  generalize hs4 : ({ s3 with heap := pushCells (s3.heap.push { cls := .type "dict", data := .dict #[] }) scope.names } : Shared) = s4 at I4 ⊢
  have st4 : tn 0 s4.heap := T.keep _ _ _ st3 fun b _ o e => by rw [← hs4]; exact pushCells_keeps _ _ _ _ (Heap.get?_push_of_some _ e)
  have stat : ∀ {σ' : St} {H' : Hp} {s' : Shared}, Inv (X.blk s3 H3 scope ce fp) [] σ' H' s' → (∀ b ∈ fp, H' b = none) → ∀ b ∈ fp, FpOk (X.blk s3 H3 scope ce fp) [] H' b := fun {σ' H' s'} I' hn b hb =>
    ⟨hn b hb, (I'.ok.exf b hb).1, I'.ok.exfs b hb, .inl hb, fun x c e => (I'.ok.exf b hb).2 x c e, fun p hp => absurd (show p ∈ ([] : List (Addr × Obj)) ++ [] from hp) (by simp)⟩
  -- back in the def's context
  have back : ∀ {pins' : List (Addr × Obj)} {σ' : St} {H' : Hp} {s' : Shared}, Inv (X.blk s3 H3 scope ce fp) pins' σ' H' s' → Inv X pins σ H' s' ∧ FpOk X pins H' ce.locals ∧ ∃ m, s'.heap.Ns ce.locals m := fun {pins' σ' H' s'} I6 => by
    refine ⟨I3.call' (ch := fp) I6.os I6.base I6.hok I6.bare fun b hb => ⟨(f3 b hb).1.2.2.2.1, (f3 b hb).1.2.1, (f3 b hb).1.2.2.2.2.1, (f3 b hb).1.2.2.2.2.2⟩, ?_, ?_⟩
    · have nC : H' ce.locals = none := I6.free
      rw [cL] at nC ⊢
      exact I3.fpOk (Nat.le_refl _) nC
    · obtain ⟨m, hn, _⟩ := I6.loc
      exact ⟨m, hn⟩
  have pe := pe (notedBy (model X.prog X.w) X.A ce fun e s' => compPostE (model X.prog X.w) X.A X.xe use Qf (.ref D) ce (.error e) s') fun σ' pins' H' s5 e5 s6 I5 c5 => by
    obtain ⟨J5, f5, m5, n5⟩ := back I5.unwish
    have z := noted_out (E2 := fun e s' => compPostE (model X.prog X.w) X.A X.xe use Qf (.ref D) ce (.error e) s') (α := Value) hst hfr tk J5 f5 n5 (fun _ _ _ w => w) cF c5
    refine wpAny_mono z (fun _ s7 q7 => ?_) fun _ _ q7 => q7
    cases use <;> exact q7
  have loop : codeAny (model X.prog X.w) X.A (.compLoop (.ListComp elt [⟨tg, iter, ifs, 0⟩] scope pos) 0 (.ref it) (.ref D) ce) (compPostE (model X.prog X.w) X.A X.xe use Qf (.ref D) ce) s4 := by
    refine compLoop_any (fun n s' => ∃ i H', Inv (X.blk s3 H3 scope ce fp) [] (wipe σ (own.map (·.2))) H' s' ∧ tn i s'.heap ∧ (∀ b ∈ fp, H' b = none) ∧ Wt i n H') ?_ m0 ⟨0, H3, I4, st4, nfp, w0⟩
    rintro n s5 ⟨i, H5, I5, st5, n5, w5⟩
    rcases turn i n H5 w5 with ⟨stop, qq⟩ | ⟨go, Nx, hNx, step⟩
    · have td := T.done (X.blk s3 H3 scope ce fp) rfl rfl rfl hc i [] s5 _ H5 (fun _ _ => False) I5 (stat I5 n5) st5 stop
      refine thnF td fun r s6 ⟨hr, I6⟩ => ?_
      subst hr
      obtain ⟨J6, f6, m6, n6⟩ := back I6
      exact hRR D ce s6 m6 H5 J6 qq n6 f6
    · have ti := T.item (X.blk s3 H3 scope ce fp) rfl rfl rfl hc i [] s5 _ H5 (fun _ _ => False) I5 (stat I5 n5) st5 go
      refine thnF ti fun r s6 ⟨u, hr, h6⟩ => ?_
      subst hr
      refine thnF h6 fun _ s7 ⟨x, H7, I7, r7, y7, st7, n7⟩ => ?_
      have I7' := I7.pinned (stat I7 n7) (T.obj _ _ st7)
      refine thnF (pg.run _ s7 _ H7 x u _ I7' r7 (step x H7 y7)) fun _ s8 ⟨σ8, H8, I8, hw8, q8⟩ => ?_
      refine thnF (pt.run _ s8 σ8 H8 _ I8 q8) fun b s9 ⟨H9, I9, q9⟩ => ?_
      have fin : ∀ {s' : Shared} {H' : Hp}, Inv (X.blk s3 H3 scope ce fp) ([] ++ pinsAt fp s7.heap) σ8 H' s' → Nx H' → ∃ m, m < n ∧ ∃ i H', Inv (X.blk s3 H3 scope ce fp) [] (wipe σ (own.map (·.2))) H' s' ∧ tn i s'.heap ∧ (∀ b ∈ fp, H' b = none) ∧ Wt i m H' := fun {s' H'} I' nx => by
        obtain ⟨m', hm, w'⟩ := hNx H' nx
        have pin' : ∀ b ∈ fp, ∀ o, s7.heap.get? b = some o → s'.heap.get? b = some o ∧ H' b = none := fun b hb o e =>
          let z := I'.pin (b, o) (List.mem_append_right _ (List.mem_append_right _ (mem_pinsAt hb e)))
          ⟨z.1, z.2.1⟩
        have hl : (wipe σ (own.map (·.2))).length = σ8.length := by rw [← hw8, wipe_length]
        refine ⟨m', hm, i + 1, H', (I'.unpinned (pins := [])).weak hl (fun j v e => ?_), T.keep _ _ _ st7 fun b hb o e => (pin' b hb o e).1, fun b hb => ?_, w'⟩
        · rw [← hw8] at e
          exact (wipe_some e).1
        · obtain ⟨o, e, _⟩ := T.obj _ _ st7 b hb
          exact (pin' b hb o e).2
      cases b with
      | false =>
        simp only [Bool.false_eq_true, if_false] at q9 ⊢
        exact fin I9 q9
      | true =>
        simp only [if_true] at q9 ⊢
        refine wpAny_mono (pe.run _ s9 σ8 H9 _ (I9.wish _) q9) (fun z s10 ⟨yv, H10, I10, r10, acc, hD10, hz10, nx⟩ => ?_) fun _ _ z => z
        exact app_ok (X := X.blk s3 H3 scope ce fp) I10.unwish hD10 hz10 r10 fun s11 I11 => fin I11 nx
  exact codeAny_compStart_list loop (T.self X.A 0 _ _ _ st4 loop)
theorem pe_lcE {X : Cx} {W : WX} {elt tg iter : Expr} {ifs : List Expr} {scope : Scope} {own : List (Str × Nat)} {pos : Pos} {wi : TI} {g : TG} {tt : TT} {te : St → TE} (hst : X.stack = X.env :: X.outer) (hfr : X.env.frame = some X.env.locals) (tk : Takes X W) (hc : X.calm = true) (hN : X.N.Nodup) (hi : PI X tg iter wi) (ok : BlkOk X.N X.env.scope scope own)
    (hg : ∀ (s : Shared) (H : Hp) (C : Addr) (cl : List (Str × Addr)) (fp : List Addr), PG (X.blk s H scope (compEnvC scope cl C X.env) fp) tg g) (ht : ∀ (s : Shared) (H : Hp) (C : Addr) (cl : List (Str × Addr)) (fp : List Addr), PTs (X.blk s H scope (compEnvC scope cl C X.env) fp) ifs tt)
    (he : ∀ (σ : St) (s : Shared) (H : Hp) (C : Addr) (cl : List (Str × Addr)) (fp : List Addr) (E : Value → Shared → Prop), Lets ((X.blk s H scope (compEnvC scope cl C X.env) fp).wish E) (fun c dx _ H' => W c dx σ H') → PE ((X.blk s H scope (compEnvC scope cl C X.env) fp).wish E) elt (te σ)) (hs : ∀ x, foldedSetIterable iter X.env x = pure x := by intro _; rfl) :
    PE X (.ListComp elt [⟨tg, iter, ifs, 0⟩] scope pos) (tLcE wi g tt te (own.map (·.2))) := by
  refine ⟨fun pins s σ H Q I h => ?_⟩
  rw [eval_ListComp]
  refine lc_coreE hst hfr tk hc hN I hi ok hg ht (he σ) hs h fun D ce s' m H' I' q hn f => ⟨m, hn, fun h'' sb => ?_⟩
  obtain ⟨f0, f1, f2, f3, f4, f5⟩ := f
  exact ⟨.ref D, H', I'.turned (t' := s'.toks) (fun b o hb e => (sb.2 b hb).trans e) f0 f1 f3 f4 f5, rfl, q⟩
theorem ps_setLcE {X : Cx} {W : WX} {i : Nat} {y : Str} {py : Pos} {elt tg iter : Expr} {ifs : List Expr} {scope : Scope} {own : List (Str × Nat)} {pos spos : Pos} {wi : TI} {g : TG} {tt : TT} {te : St → TE} (hst : X.stack = X.env :: X.outer) (hfr : X.env.frame = some X.env.locals) (tk : Takes X W) (hc : X.calm = true) (hN : X.N.Nodup) (hy : X.N[i]? = some y) (hyl : X.env.scope.names.lookup y = some .local)
    (hsw : swapsWith (.ListComp elt [⟨tg, iter, ifs, 0⟩] scope pos) (some (.Name y py)) spos.line X.env = pure true) (hi : PI X tg iter wi) (ok : BlkOk X.N X.env.scope scope own)
    (hg : ∀ (s : Shared) (H : Hp) (C : Addr) (cl : List (Str × Addr)) (fp : List Addr), PG (X.blk s H scope (compEnvC scope cl C X.env) fp) tg g) (ht : ∀ (s : Shared) (H : Hp) (C : Addr) (cl : List (Str × Addr)) (fp : List Addr), PTs (X.blk s H scope (compEnvC scope cl C X.env) fp) ifs tt)
    (he : ∀ (σ : St) (s : Shared) (H : Hp) (C : Addr) (cl : List (Str × Addr)) (fp : List Addr) (E : Value → Shared → Prop), Lets ((X.blk s H scope (compEnvC scope cl C X.env) fp).wish E) (fun c dx _ H' => W c dx σ H') → PE ((X.blk s H scope (compEnvC scope cl C X.env) fp).wish E) elt (te σ)) (hs : ∀ x, foldedSetIterable iter X.env x = pure x := by intro _; rfl) :
    PS X (.Assign [.Name y py] (.ListComp elt [⟨tg, iter, ifs, 0⟩] scope pos) spos) (tAsg (tLcE wi g tt te (own.map (·.2))) (gName i)) := by
  refine ⟨fun pins s σ H D I h => ?_⟩
  rw [exec_Assign_Name_used _ _ _ _ hsw]
  refine wpAny_bind (wpAny_standAt (wpAny_bind ?_))
  show wpAny _ X.A (do let _ ← comprehension (.ListComp elt [⟨tg, iter, ifs, 0⟩] scope pos) scope X.env (firstIterPos [⟨tg, iter, ifs, 0⟩] pos) (newList []) false (eval iter X.env) (some (assign (.Name y py) X.env))) _ _ s
  have h : tLcE wi g tt te (own.map (·.2)) σ H (fun x H1 => gName i x σ H1 D.nx) := h
  refine wpAny_bind (thn (lc_coreE (Qf := fun _ s' => SP X pins D .next s') hst hfr tk hc hN I hi ok hg ht (he σ) hs h fun L ce s' m H' I' q hn f => ?_) fun _ s' hq => wpAny_pure (wpAny_pure hq))
  show wpAny _ _ (assign (.Name y py) X.env (.ref L)) _ _ _
  refine wpAny_assign_Name (store_ok2 (v := V.ref L) I' hN hy (.inl hyl) rfl (fun s2 I2 ⟨a, sb, ha⟩ => ?_) (.inr hyl))
  obtain ⟨f0, f1, f2, f3, f4, f5⟩ := f
  have haC : ce.locals ≠ a := by
    rcases ha with z | z
    · rw [z]; exact f1
    · exact fun e => f4 y a z e.symm
  refine ⟨m, hn.sameBut sb haC, fun h3 sb3 => ?_⟩
  exact ⟨_, H', I2.turned (t' := s2.toks) (fun b o hb e => (sb3.2 b hb).trans e) f0 f1 f3 f4 f5, q⟩
end Vb
/-! Vn: list comprehensions. -/
namespace Vb
open PySem PySem.Spec PyProof.Rows L2
/-- the context of a comprehension's block -/
abbrev blkX (X : Cx) (s : Shared) (H : Hp) (scope : Scope) (C : Addr) (cl : List (Str × Addr)) (fp : List Addr) (E : Value → Shared → Prop) : Cx := (X.blk s H scope (compEnvC scope cl C X.env) fp).wish E
section
variable {X : Cx} {ca : String → Addr} {W : WX} {elt tg iter : Expr} {ifs : List Expr} {scope : Scope} {own : List (Str × Nat)} {pos : Pos} {fi : EvI} {is : List Nat} {b : Bd} {t f : Ev}
theorem lets_no {Y : Cx} : Lets Y WF := fun σ pins H s e s' I h => by
  obtain ⟨a, B, H', cls, d, _, _, _, _, _, _, _, z⟩ := h
  exact False.elim z
theorem compL_len {b : Bd} {t e : Ev} {Γ : Env} : ∀ {ds l : List D}, compL b t e Γ ds = .ok l → l.length ≤ ds.length
  | [], _, h => by cases h; exact Nat.le_refl _
  | d :: ds, l, h => by
    unfold compL at h
    split at h
    · cases h
    · split at h
      · split at h
        · split at h
          · rename_i l' hl
            cases h
            exact Nat.succ_le_succ (compL_len hl)
          · cases h
          · cases h
        · cases h
        · cases h
      · exact Nat.le_succ_of_le (compL_len h)
      · cases h
theorem wipe_wipe {σ : St} {ws : List Nat} : ∀ {vs : List Nat}, (∀ i ∈ vs, i ∈ ws) → wipe (wipe σ vs) ws = wipe σ ws
  | [], _ => rfl
  | v :: vs, h => by
    show wipe ((wipe σ vs).set v none) ws = _
    rw [wipe_same (h v List.mem_cons_self), wipe_wipe fun i hi => h i (List.mem_cons_of_mem _ hi)]
/-- what was collected ahead -/
def OutL.pre (ys : List D) : OutL → OutL
  | .ok zs => .ok (ys ++ zs)
  | .err x => .err x
  | .stuck => .stuck
/-- the reading of a comprehension -/
theorem tLc_of {Γ : Env} {σ : St} {H : Hp} {Q : VK} (hv : ∀ i ∈ is, i ∈ own.map (·.2)) (h : tE X.K ca W (eLC (own.map (·.2)) fi b t f) Γ σ H Q) :
    tLcE (iD X.K ca W fi Γ) (gD X.K is b) (tTAny X.K ca WF t) (fun σ => tEAny X.K ca (fun c dx _ H' => W c dx σ H') (eDat f)) (own.map (·.2)) σ H Q := by
  obtain ⟨G, o, q⟩ := h
  refine ⟨G, o, ?_⟩
  unfold eLC at q
  revert q
  cases e : fi Γ with
  | stuck => exact fun q => q
  | err x => exact fun q => q
  | ok ds =>
    intro q J G1 H1 s1 src D nD
    dsimp only at q
    by_cases hl : ds.length ≤ 1000
    · rw [if_pos hl] at q
      obtain ⟨R, hR⟩ : ∃ R, compL b t f (wipeE Γ (own.map (·.2))) ds = R := ⟨_, rfl⟩
      rw [hR] at q
      have hns : R ≠ .stuck := fun z => by rw [z] at q; exact q
      have qok : ∀ out, R = .ok out → Fin X.K ca W σ G H Q (.ok .own (.list out)) := fun out z => by rw [z] at q; exact q
      have qerr : ∀ x, R = .err x → Fin X.K ca W σ G H Q (.err x) := fun x z => by rw [z] at q; exact q
      have o1 := o.mono s1
      have gD1 : G1 D = none := o1.good.none_of nD
      have p0 : (compL b t f (wipeE Γ (own.map (·.2))) (ds.drop 0)).pre [] = R := by
        rw [List.drop_zero, hR]
        cases R <;> rfl
      refine ⟨fun i m H' => i + m = ds.length ∧ ∃ G' acc ys, Good G' H' ∧ Sub G1 G' ∧ (∀ a, G' a ≠ none → G1 a ≠ none ∨ H1 a = none) ∧ (∀ a u, H1 a = some u → H' a = some u) ∧ G' D = none ∧ H' D = some (.lst acc) ∧ Reps X.K G' acc ys ∧ ys.length ≤ i ∧
          (compL b t f (wipeE Γ (own.map (·.2))) (ds.drop i)).pre ys = R, ⟨ds.length, by omega, G1, [], [], ?_, .refl, fun _ h => .inl h, ?_, gD1, upd_same, .nil, Nat.le_refl _, p0⟩, fun i m H' ⟨em, G', acc, ys, g', sg, nw, kp, gD', hD, rr, yl, el⟩ => ?_⟩
      · exact (Stp.lay o1.good nD).good
      · exact fun a u ha => (Stp.lay o1.good nD).keep a u ha
      have sp : Stp G1 H1 G' H' := ⟨kp, sg, nw, g'⟩
      obtain ⟨go, stop⟩ := src i G' H' sg (fun a u _ ha => kp a u ha) g'
      by_cases hi : i < ds.length
      · obtain ⟨g1, yl1⟩ := go hi
        refine .inr ⟨g1, fun H2 => i + 1 + (m - 1) = ds.length ∧ ∃ G' acc ys, Good G' H2 ∧ Sub G1 G' ∧ (∀ a, G' a ≠ none → G1 a ≠ none ∨ H1 a = none) ∧ (∀ a u, H1 a = some u → H2 a = some u) ∧ G' D = none ∧ H2 D = some (.lst acc) ∧ Reps X.K G' acc ys ∧ ys.length ≤ i + 1 ∧
          (compL b t f (wipeE Γ (own.map (·.2))) (ds.drop (i + 1))).pre ys = R, fun H2 h2 => ⟨m - 1, by omega, h2⟩, fun x H2 hy => ?_⟩
        obtain ⟨G2, s2, rx⟩ := yl1 x H2 hy
        have s12 := sp.trans s2
        obtain ⟨ow, sw⟩ := wipe_ok (o.mono (s1.trans s12)) (own.map (·.2))
        have hd : ds.drop i = ds[i] :: ds.drop (i + 1) := List.drop_eq_getElem_cons hi
        rw [hd] at el
        have rx' := rx ds[i] (List.getElem?_eq_getElem hi)
        have nD2 : H2 D = some (.lst acc) := s2.keep _ _ hD
        have gD2 : G2 D = none := s2.noneG gD' (by rw [hD]; simp)
        unfold compL at el
        cases eb : b ds[i] (wipeE Γ (own.map (·.2))) with
        | none => rw [eb] at el; exact absurd el.symm hns
        | some Γ3 =>
          rw [eb] at el
          dsimp only at el
          refine ⟨_, G2, ds[i], Γ3, ow, rx', eb, fun σ3 o3 s3 w3 => ⟨(w3 _ hv).trans (wipe_wipe fun _ h => h), Γ3, G2, o3, ?_⟩⟩
          cases et : t Γ3 with
          | stuck => rw [et] at el; exact absurd el.symm hns
          | err x => rw [et] at el; exact absurd el.symm hns
          | ok m3 d3 =>
            rw [et] at el
            cases d3 with
            | bool k =>
              cases k with
              | false =>
                dsimp only at el
                intro G3 H3 s3'
                have s13 := s12.trans s3'
                exact ⟨by omega, G3, acc, ys, s3'.good, s13.sub, s13.new, s13.keep, s3'.noneG gD2 (by rw [nD2]; simp), s3'.keep _ _ nD2, rr.mono (s2.sub.trans s3'.sub), by omega, el⟩
              | true =>
                dsimp only at el
                intro G3 H3 s3'
                refine ⟨Γ3, G3, o3.mono s3', ?_⟩
                cases ef : eDat f Γ3 with
                | stuck => rw [ef] at el; exact absurd el.symm hns
                | err x =>
                  rw [ef] at el
                  exact fun c dx G4 H4 s4 xr => qerr x el.symm c dx G4 H4 ((s1.trans (s12.trans s3')).trans s4) xr
                | ok m4 y =>
                  cases dat_mode ef
                  rw [ef] at el
                  dsimp only at el
                  intro v G4 H4 s4 rv _
                  have s34 := s3'.trans s4
                  have s14 := s12.trans s34
                  have nD4 : H4 D = some (.lst acc) := s34.keep _ _ nD2
                  have gD4 : G4 D = none := s34.noneG gD2 (by rw [nD2]; simp)
                  have la : acc.length ≤ i := by rw [rr.length]; exact yl
                  refine ⟨acc, nD4, small1000 (by omega), by omega, ?_⟩
                  have el2 : (compL b t f (wipeE Γ (own.map (·.2))) (ds.drop (i + 1))).pre (ys ++ [y]) = R := by
                    rw [← el]
                    cases compL b t f (wipeE Γ (own.map (·.2))) (ds.drop (i + 1)) with
                    | ok l => show OutL.ok (ys ++ [y] ++ l) = OutL.ok (ys ++ y :: l); rw [List.append_assoc]; rfl
                    | err x => rfl
                    | stuck => rfl
                  refine ⟨G4, acc ++ [v], ys ++ [y], fun a u ga => ?_, s14.sub, s14.new, fun a u ha => ?_, gD4, upd_same, (rr.mono (s2.sub.trans s34.sub)).append (.cons rv .nil), by rw [List.length_append]; simp; omega, el2⟩
                  · have hne : a ≠ D := fun z => by rw [z, gD4] at ga; cases ga
                    exact (s4.good a u ga).keep fun w hw => by rw [upd_ne hne]; exact hw
                  · have hne : a ≠ D := fun z => by rw [z, nD] at ha; cases ha
                    rw [upd_ne hne]; exact s14.keep a u ha
            | _ => exact absurd el.symm hns
      · refine .inl ⟨stop (by omega), ?_⟩
        rw [List.drop_eq_nil_of_le (by omega)] at el
        have s0 : Stp G H G' H' := s1.trans sp
        have er : R = .ok ys := by rw [← el]; unfold compL; show OutL.ok (ys ++ []) = _; rw [List.append_nil]
        refine qok ys er (.ref D) G' H' s0 ⟨D, _, rfl, hD, gD', .lst rr⟩ fun a ea => by
          cases ea
          cases qq : H D with
          | none => rfl
          | some u => rw [s1.keep _ _ qq] at nD; cases nD
    · rw [if_neg hl] at q; exact False.elim q
theorem snd_lc (hst : X.stack = X.env :: X.outer) (hfr : X.env.frame = some X.env.locals) (tk : Takes X W) (hc : X.calm = true) (hN : X.N.Nodup) (hv : ∀ i ∈ is, i ∈ own.map (·.2)) (hi : SndI X ca W tg iter fi) (ok : BlkOk X.N X.env.scope scope own)
    (hg : ∀ (s : Shared) (H : Hp) (C : Addr) (cl : List (Str × Addr)) (fp : List Addr) (E : Value → Shared → Prop), SndG (blkX X s H scope C cl fp E) tg is b)
    (ht : ∀ (s : Shared) (H : Hp) (C : Addr) (cl : List (Str × Addr)) (fp : List Addr) (E : Value → Shared → Prop) (W' : WX), Lets (blkX X s H scope C cl fp E) W' → SndTs (blkX X s H scope C cl fp E) ca W' ifs t)
    (he : ∀ (s : Shared) (H : Hp) (C : Addr) (cl : List (Str × Addr)) (fp : List Addr) (E : Value → Shared → Prop) (W' : WX), Lets (blkX X s H scope C cl fp E) W' → Snd (blkX X s H scope C cl fp E) ca W' elt f)
    (hs : ∀ x, foldedSetIterable iter X.env x = pure x := by intro _; rfl) : Snd X ca W (.ListComp elt [⟨tg, iter, ifs, 0⟩] scope pos) (eLC (own.map (·.2)) fi b t f) := fun Γ =>
  pimp (pe_lcE (own := own) (g := gD X.K is b) (tt := tTAny X.K ca WF t) (te := fun σ => tEAny X.K ca (fun c dx _ H' => W c dx σ H') (eDat f)) hst hfr tk hc hN (hi Γ) ok (fun s H C cl fp => hg s H C cl fp (fun _ _ => False))
    (fun s H C cl fp => ⟨fun p s' σ H' Q I ⟨Γ', q⟩ => ((ht s H C cl fp (fun _ _ => False) WF lets_no) Γ').run p s' σ H' Q I q⟩)
    (fun σ₀ s H C cl fp E lt => ⟨fun p s' σ H' Q I ⟨Γ', q⟩ => (snd_dat (he s H C cl fp E _ lt) Γ').run p s' σ H' Q I q⟩) hs) fun σ H Q h => tLc_of hv h
/-- name = [..] -/
theorem snds_asgLc {i : Nat} {y : Str} {py : Pos} {spos : Pos} (hst : X.stack = X.env :: X.outer) (hfr : X.env.frame = some X.env.locals) (tk : Takes X W) (hc : X.calm = true) (hN : X.N.Nodup) (hy : X.N[i]? = some y) (hyl : X.env.scope.names.lookup y = some .local) (hsw : swapsWith (.ListComp elt [⟨tg, iter, ifs, 0⟩] scope pos) (some (.Name y py)) spos.line X.env = pure true)
    (hv : ∀ i ∈ is, i ∈ own.map (·.2)) (hi : SndI X ca W tg iter fi) (ok : BlkOk X.N X.env.scope scope own)
    (hg : ∀ (s : Shared) (H : Hp) (C : Addr) (cl : List (Str × Addr)) (fp : List Addr) (E : Value → Shared → Prop), SndG (blkX X s H scope C cl fp E) tg is b)
    (ht : ∀ (s : Shared) (H : Hp) (C : Addr) (cl : List (Str × Addr)) (fp : List Addr) (E : Value → Shared → Prop) (W' : WX), Lets (blkX X s H scope C cl fp E) W' → SndTs (blkX X s H scope C cl fp E) ca W' ifs t)
    (he : ∀ (s : Shared) (H : Hp) (C : Addr) (cl : List (Str × Addr)) (fp : List Addr) (E : Value → Shared → Prop) (W' : WX), Lets (blkX X s H scope C cl fp E) W' → Snd (blkX X s H scope C cl fp E) ca W' elt f)
    (hs : ∀ x, foldedSetIterable iter X.env x = pure x := by intro _; rfl) : SndS X ca W (.Assign [.Name y py] (.ListComp elt [⟨tg, iter, ifs, 0⟩] scope pos) spos) (sAsg i (eLC (own.map (·.2)) fi b t f)) := fun Γ =>
  psimp (ps_setLcE (own := own) (g := gD X.K is b) (tt := tTAny X.K ca WF t) (te := fun σ => tEAny X.K ca (fun c dx _ H' => W c dx σ H') (eDat f)) hst hfr tk hc hN hy hyl hsw (hi Γ) ok (fun s H C cl fp => hg s H C cl fp (fun _ _ => False))
    (fun s H C cl fp => ⟨fun p s' σ H' Q I ⟨Γ', q⟩ => ((ht s H C cl fp (fun _ _ => False) WF lets_no) Γ').run p s' σ H' Q I q⟩)
    (fun σ₀ s H C cl fp E lt => ⟨fun p s' σ H' Q I ⟨Γ', q⟩ => (snd_dat (he s H C cl fp E _ lt) Γ').run p s' σ H' Q I q⟩) hs) fun D σ H ⟨G, o, q⟩ => tLc_of hv ⟨G, o, (FinS.toS o q).imp fun v G1 H1 s1 ⟨m, d, G2, s2, r, n, q2⟩ => by
      cases m with
      | bor => exact False.elim q2
      | dat =>
        obtain ⟨o2, s3⟩ := o.store (i := i) s2 r n (.inl ⟨rfl, rfl⟩)
        exact q2 _ G2 H1 s3 o2
      | own =>
        obtain ⟨o2, s3⟩ := o.store (i := i) s2 r n (.inr ⟨rfl, rfl⟩)
        exact q2 _ G2 H1 s3 o2⟩
end
end Vb
/-! Vo: names that become data; raise; stores; append, pop, update. -/
namespace Vb
open PySem PySem.Spec PyProof.Rows L2
/-! ### a name's object becomes data -/
def frzE (i : Nat) (Γ : Env) : Env := match Γ[i]? with
  | some (.own d) => Γ.set i (.dat d)
  | _ => Γ
def sFrz (i : Nat) (f : Ss) : Ss := fun Γ => f (frzE i Γ)
section
variable {X : Cx} {ca : String → Addr} {W : WX} {f : Ss}
theorem frz_ok {pins : List (Addr × Obj)} {Γ : Env} {σ : St} {G H : Hp} {s : Shared} (i : Nat) (I : Inv X pins σ H s) (o : StOk X.K G H Γ σ) :
    ∃ G' H', Inv X pins σ H' s ∧ StOk X.K G' H' (frzE i Γ) σ ∧ SStp G H (Own Γ σ) G' H' (Own (frzE i Γ) σ) := by
  unfold frzE
  cases e : Γ[i]? with
  | none => exact ⟨G, H, I, o, .refl⟩
  | some sv =>
    cases sv with
    | un => exact ⟨G, H, I, o, .refl⟩
    | dat d => exact ⟨G, H, I, o, .refl⟩
    | own d =>
      obtain ⟨a, u, e1, ha, ga, r⟩ := o.slot i _ e
      have hl : i < Γ.length := by
        rcases Nat.lt_or_ge i Γ.length with z | z
        · exact z
        · rw [List.getElem?_eq_none z] at e; cases e
      have oA : Own Γ σ a := ⟨i, d, e, e1⟩
      -- the slots behind it
      have slots : ∀ H', (∀ b w, b ≠ a → H b = some w → H' b = some w) → Good (upd G a u) H' → StOk X.K (upd G a u) H' (Γ.set i (.dat d)) σ := fun H' hk g' => by
        have sg : Sub G (upd G a u) := fun b w eb => by rw [upd_ne (fun z => by rw [z, ga] at eb; cases eb)]; exact eb
        refine ⟨g', by rw [List.length_set]; exact o.len, fun j sv ej => ?_, fun j k d1 d2 b e2 e3 e4 e5 => ?_⟩
        · rcases set_get ej with ⟨rfl, rfl, _⟩ | ⟨hj, ej⟩
          · refine ⟨.ref a, e1, ?_⟩
            cases r with
            | lst r => exact .lst upd_same (r.mono sg)
            | dic r => exact .dic upd_same (r.mono sg)
          · have z := o.slot j sv ej
            cases sv with
            | un => trivial
            | dat d' => obtain ⟨v, h1, h2⟩ := z; exact ⟨v, h1, h2.mono sg⟩
            | own d' =>
              obtain ⟨b, w, h1, h2, h3, h4⟩ := z
              have hb : b ≠ a := fun z => hj (o.dist i j d d' a e ej e1 (by rw [h1, z]))
              exact ⟨b, w, h1, hk b w hb h2, by rw [upd_ne hb]; exact h3, h4.mono sg⟩
        · rcases set_get e2 with ⟨_, z, _⟩ | ⟨_, e2⟩
          · cases z
          · rcases set_get e3 with ⟨_, z, _⟩ | ⟨_, e3⟩
            · cases z
            · exact o.dist j k d1 d2 b e2 e3 e4 e5
      have own' : ∀ b, Own (Γ.set i (.dat d)) σ b → Own Γ σ b := fun b ⟨j, d1, e2, e3⟩ => by
        rcases set_get e2 with ⟨_, z, _⟩ | ⟨_, e2⟩
        · cases z
        · exact ⟨j, d1, e2, e3⟩
      have newG : ∀ b, upd G a u b ≠ none → G b ≠ none ∨ Own Γ σ b ∨ H b = none := fun b hb => by
        by_cases z : b = a
        · subst z; exact .inr (.inl oA)
        · rw [upd_ne z] at hb; exact .inl hb
      have sg : Sub G (upd G a u) := fun b w eb => by rw [upd_ne (fun z => by rw [z, ga] at eb; cases eb)]; exact eb
      cases r with
      | @lst xs ds r =>
        refine ⟨upd G a (.lst xs), H, I, slots H (fun _ _ _ e => e) fun b w eb => ?_, ⟨fun _ _ e _ => e, fun _ h => h, sg, newG, fun b h => .inl (own' b h)⟩⟩
        by_cases z : b = a
        · subst z; rw [upd_same] at eb; cases eb; exact .of ha
        · rw [upd_ne z] at eb; exact o.good b w eb
      | @dic kvs ds r =>
        obtain ⟨od, I'⟩ := I.lock ha True.intro
        refine ⟨upd G a (.dK kvs), upd H a (.frz od (.dK kvs)), I', slots _ (fun b w hb e => by rw [upd_ne hb]; exact e) fun b w eb => ?_, ⟨fun b w e no => ?_, fun b h => ?_, sg, newG, fun b h => .inl (own' b h)⟩⟩
        · by_cases z : b = a
          · subst z; rw [upd_same] at eb; cases eb; exact ⟨od, upd_same⟩
          · rw [upd_ne z] at eb
            exact (o.good b w eb).keep fun v q => by rw [upd_ne z]; exact q
        · have hb : b ≠ a := fun z => no (z ▸ oA)
          rw [upd_ne hb]; exact e
        · by_cases z : b = a
          · subst z; rw [upd_same]; simp
          · rw [upd_ne z]; exact h
theorem snds_frz {st : Stmt} (i : Nat) (h : SndS X ca W st f) : SndS X ca W st (sFrz i f) := fun Γ => ⟨fun pins s σ H D I ⟨G, o, q⟩ => by
  obtain ⟨G', H', I', o', s'⟩ := frz_ok i I o
  exact (h (frzE i Γ)).run pins s σ H' D I' ⟨G', o', FinS.later s' q⟩⟩
/-! ### raise -/
def sRaise (c : String) : Ss := fun _ => .err ⟨c, []⟩
theorem snds_raise {C : Addr} {c : String} {bmB : List Value} {B newId initId : String} {x m : Str} {j : Nat} {p p2 pos pos' : Pos} (hc : X.calm = true) (tk : Takes X W) (F : ExcBaseFacts B newId initId bmB) (q : PySem.W.excIn X.K C bmB newId = true)
    (gC : X.mg x = some (.ref C)) (kC : PySem.W.keepIn X.K (.ref C) = true) (r : Raises X (.ref C)) (hg : Gl X x) (hC : ca c = C) (hdb : (x == ("__debug__" : Str)) = false := by decide) :
    SndS X ca W (.Raise (some (.Call (.Name x p) [.Constant (.str m) j p2] [] pos)) none pos') (sRaise c) := fun Γ =>
  psimp (ps_raise hc tk (pmk_own F q gC kC r hg hdb)) fun D σ H ⟨G, o, q⟩ => q (.ref C) none σ G H _ .refl o.good ⟨by rw [hC], .inl ⟨rfl, rfl⟩⟩
/-! ### x[k] = e -/
def putD : D → D → D → Option D
  | .dict ds, k, v => if isKey k = true ∧ ds.length ≤ 1000 then some (.dict (dput ds k v)) else none
  | .list ds, .int i, v => (ixN ds.length i).map fun j => .list (ds.set j v)
  | _, _, _ => none
def sPut (i : Nat) (fk fe : Ev) : Ss := fun Γ => (eDat fe Γ).toS fun _ v => match Γ[i]? with
  | some (.own d) => (fk Γ).toS fun _ k => (match putD d k v with
    | some d' => .nx (Γ.set i (.own d'))
    | none => .stuck)
  | _ => .stuck
/-- the object at a slot is written -/
theorem StOk.write {K : PySem.W.Frag} {G H : Hp} {Γ : Env} {σ : St} {i : Nat} {a : Addr} {d d' : PyData} {u' : HO} (o : StOk K G H Γ σ) (e : Γ[i]? = some (.own d)) (e1 : σ[i]? = some (some (.ref a))) (r : Obj1 K G u' d') :
    StOk K G (upd H a u') (Γ.set i (.own d')) σ ∧ SStp G H (Own Γ σ) G (upd H a u') (Own (Γ.set i (.own d')) σ) := by
  have oA : Own Γ σ a := ⟨i, d, e, e1⟩
  have ga := own_none o oA
  have hl : i < Γ.length := by
    rcases Nat.lt_or_ge i Γ.length with z | z
    · exact z
    · rw [List.getElem?_eq_none z] at e; cases e
  refine ⟨⟨fun b w eb => ?_, by rw [List.length_set]; exact o.len, fun j sv ej => ?_, fun j k d1 d2 b e2 e3 e4 e5 => ?_⟩, ⟨fun b w eb no => ?_, fun b h => ?_, .refl, fun _ h => .inl h, fun b ⟨j, d1, e2, e3⟩ => ?_⟩⟩
  · have hb : b ≠ a := fun z => by rw [z, ga] at eb; cases eb
    exact (o.good b w eb).keep fun v q => by rw [upd_ne hb]; exact q
  · rcases set_get ej with ⟨rfl, rfl, _⟩ | ⟨hj, ej⟩
    · exact ⟨a, u', e1, upd_same, ga, r⟩
    · have z := o.slot j sv ej
      cases sv with
      | un => trivial
      | dat d' => exact z
      | own d'' =>
        obtain ⟨b, w, h1, h2, h3, h4⟩ := z
        have hb : b ≠ a := fun z => hj (o.dist i j d d'' a e ej e1 (by rw [h1, z]))
        exact ⟨b, w, h1, by rw [upd_ne hb]; exact h2, h3, h4⟩
  · have e2' : ∃ d3, Γ[j]? = some (SV.own d3) := by
      rcases set_get e2 with ⟨rfl, _, _⟩ | ⟨_, z⟩
      · exact ⟨d, e⟩
      · exact ⟨d1, z⟩
    have e3' : ∃ d3, Γ[k]? = some (SV.own d3) := by
      rcases set_get e3 with ⟨rfl, _, _⟩ | ⟨_, z⟩
      · exact ⟨d, e⟩
      · exact ⟨d2, z⟩
    obtain ⟨d3, e2'⟩ := e2'
    obtain ⟨d4, e3'⟩ := e3'
    exact o.dist j k d3 d4 b e2' e3' e4 e5
  · have hb : b ≠ a := fun z => no (z ▸ oA)
    rw [upd_ne hb]; exact eb
  · by_cases z : b = a
    · subst z; rw [upd_same]; simp
    · rw [upd_ne z]; exact h
  · rcases set_get e2 with ⟨rfl, _, _⟩ | ⟨_, z⟩
    · rw [e1] at e3; cases e3; exact .inl oA
    · exact .inl ⟨j, d1, z, e3⟩
theorem put_obj {K : PySem.W.Frag} {G H : Hp} {a : Addr} {u : HO} {d k v d' : PyData} {x y : V} (h : H a = some u) (r : Obj1 K G u d) (vk : View K G H x k) (rv : Rep K G y v) (e : putD d k v = some d') :
    ∃ u', Obj1 K G u' d' ∧ ((∃ xs i j, u = .lst xs ∧ x = .int i ∧ ixN xs.length i = some j ∧ u' = .lst (xs.set j y)) ∨ DPut H a x y (upd H a u')) := by
  unfold putD at e
  split at e
  · split at e
    · rename_i c
      cases e
      obtain ⟨key, rfl⟩ := key_of_isKey c.1
      cases r with
      | dic r =>
        cases vk.key
        exact ⟨_, .dic (KReps.put rv key r), .inr (.k h (small1000 (by rw [r.length]; exact c.2)))⟩
    · cases e
  · obtain ⟨j, e1, e2⟩ := Option.map_eq_some_iff.mp e
    cases e2
    cases r with
    | lst r =>
      cases vk.int
      exact ⟨_, .lst (Reps.set rv j r), .inl ⟨_, _, j, rfl, rfl, by rw [r.length]; exact e1, rfl⟩⟩
  · cases e
theorem FinS.toE {K : PySem.W.Frag} {σ : St} {G H : Hp} {D : Ends} {o : Out} {k : Md → PyData → SOut} {Γ : Env} (ok : StOk K G H Γ σ) (h : FinS K ca W G H (Own Γ σ) D (o.toS k)) : Fin K ca W σ G H (fun v H1 => ∃ m d G1, o = .ok m d ∧ Stp G H G1 H1 ∧ RVal K G1 H1 v d m ∧ New1 H v m ∧ FinS K ca W G H (Own Γ σ) D (k m d)) o := by
  cases o with
  | ok m d => exact fun v G' H' s r n => ⟨m, d, G', rfl, s, r, n, h⟩
  | err x => exact fun c dx G' H' s r => h c dx σ G' H' _ s.s s.good r
  | stuck => exact h
def rPutX : TSet := fun o i v H Q => rSetL o i v H Q ∨ rSetD o i v H Q
theorem set_any (hu : X.A.units + 1 < cLine) : PSet X rPutX := fun pins s σ H o i v ov iv u Q I ro ri rv h => h.elim (fun h => set_list pins s σ H o i v ov iv u Q I ro ri rv h) (fun h => set_dict hu pins s σ H o i v ov iv u Q I ro ri rv h)
theorem snds_put {i : Nat} {x : Str} {px pt pos : Pos} {ek e : Expr} {fk fe : Ev} (hu : X.A.units + 1 < cLine) (hN : X.N[i]? = some x) (hv : Vis X.env.scope x) (hk : Snd X ca W ek fk) (he : Snd X ca W e fe)
    (hs : swapsWithSole [.Subscript (.Name x px) ek pt] e pos.line X.env = pure false := by rfl) (hw : swappedStores [.Subscript (.Name x px) ek pt] e X.env = pure none := by rfl)
    (h1 : (assignEach [.Subscript (.Name x px) ek pt] X.env).map (·.2) = [assign (.Subscript (.Name x px) ek pt) X.env] := by rfl)
    (ha : ∀ v, assign (.Subscript (.Name x px) ek pt) X.env v = (do
      let ov ← holding [v] (eval (.Name x px) X.env)
      let iv ← holding [v, ov] (eval ek X.env)
      standAt pt
      holding [v, ov, iv] (setItem ov iv v)
      release [v, ov, iv] []) := by intro _; rfl) (hd : (x == ("__debug__" : Str)) = false := by decide) (hcd : (x == ("__classdict__" : Str)) = false := by decide) :
    SndS X ca W (.Assign [.Subscript (.Name x px) ek pt] e pos) (sPut i fk fe) := fun Γ =>
  psimp (ps_asg (snd_dat he Γ) (pg_sub (pe_var hN hv hd hcd) (hk Γ) (set_any hu) ha) hs hw h1) fun D σ H ⟨G, o, q⟩ => ⟨G, o, (FinS.toE o q).imp fun v G1 H1 s1 ⟨m, d, G2, em, s2, r, n, q2⟩ => by
    -- the value stands; the base
    cases dat_mode em
    cases eb : Γ[i]? with
    | none => rw [eb] at q2; exact False.elim q2
    | some sv =>
      rw [eb] at q2
      cases sv with
      | un => exact False.elim q2
      | dat d0 => exact False.elim q2
      | own d0 =>
        have o2 := o.mono s2
        obtain ⟨a, u, e1, ha, ga, ro⟩ := o2.slot i _ eb
        refine ⟨.ref a, e1, G2, o2, (FinS.toS o2 (FinS.later s2.s q2)).imp fun k G3 H3 s3 ⟨mk, dk, G4, s4, rk, nk, q4⟩ => ?_⟩
        cases ep : putD d0 dk d with
        | none => rw [ep] at q4; exact False.elim q4
        | some d' =>
          rw [ep] at q4
          have o4 := o2.mono s4
          have ha4 := s4.keep _ _ ha
          have q5 := FinS.later s4.s q4
          have rv : Rep X.K G4 v d := Rep.mono s4.sub r
          obtain ⟨u', r', hput⟩ := put_obj ha4 (ro.mono s4.sub) rk.view rv ep
          obtain ⟨o6, s6⟩ := o4.write eb e1 r'
          rcases hput with ⟨xs, j, n', rfl, rfl, hj, rfl⟩ | hp
          · exact .inl ⟨a, xs, j, n', rfl, rfl, ha4, hj, q5 σ G4 _ s6 o6⟩
          · exact .inr ⟨a, _, rfl, hp, q5 σ G4 _ s6 o6⟩⟩
end
end Vb
/-! Vp: append, pop, update; a def's promise by its body. -/
namespace Vb
open PySem PySem.Spec PyProof.Rows L2
def sApp (i : Nat) (fe : Ev) : Ss := fun Γ => match Γ[i]? with
  | some (.own (.list ds)) => (eDat fe Γ).toS fun _ v => if ds.length ≤ 1000 then .nx (Γ.set i (.own (.list (ds ++ [v])))) else .stuck
  | _ => .stuck
def sPop (i : Nat) (fk : Ev) : Ss := fun Γ => match Γ[i]? with
  | some (.own (.dict ds)) => (fk Γ).toS fun _ k => if isKey k = true ∧ (dget ds k).isSome = true then .nx (Γ.set i (.own (.dict (ddrop ds k)))) else .stuck
  | _ => .stuck
def sUpd (i : Nat) (fe : Ev) : Ss := fun Γ => match Γ[i]? with
  | some (.own (.dict ds)) => (eDat fe Γ).toS fun _ v => match v with
    | .dict es => if okK es = true ∧ ds.length + es.length ≤ 1000 then .nx (Γ.set i (.own (.dict (dmerge ds es)))) else .stuck
    | _ => .stuck
  | _ => .stuck
/-- x[k] = x.pop(j) -/
def sPutPop (i : Nat) (fk fj : Ev) : Ss := fun Γ => match Γ[i]? with
  | some (.own (.dict ds)) => (fj Γ).toS fun _ j => if isKey j = true ∧ ds.length ≤ 1000 then (match dget ds j with
    | some v => (fk (Γ.set i (.own (.dict (ddrop ds j))))).toS fun _ k => if isKey k = true then .nx (Γ.set i (.own (.dict (dput (ddrop ds j) k v)))) else .stuck
    | none => .stuck) else .stuck
  | _ => .stuck
section
variable {X : Cx} {ca : String → Addr} {W : WX} {i : Nat} {x : Str} {px ap cp pos : Pos} {e : Expr} {fe : Ev}
theorem snds_app (hN : X.N[i]? = some x) (hv : Vis X.env.scope x) (he : Snd X ca W e fe) (hs : swapsWith (.Call (.Attribute (.Name x px) "append" ap) [e] [] cp) none pos.line X.env = pure false := by rfl)
    (hbase : attributeBase (.Name x px) "append" X.env (eval (.Name x px) X.env) = eval (.Name x px) X.env := by rfl)
    (hfew : ((backTo cp (starEach [e] X.env)).all (fun x => !x.1) && (backToKw cp (keywordEach [] X.env)).all (fun x => x.1.isSome) && decide (([e] : List Expr).length + ([] : List Keyword).length + (if ([] : List Keyword).isEmpty then 0 else 1) < 30)) = true := by rfl)
    (hline : (ap.endLine == cp.line) = true := by rfl) (hst : starEach [e] X.env = (false, eval e X.env) :: starEach [] X.env := by rfl) (hplain : (backTo cp (starEach [] X.env)).any (·.1) = false := by rfl)
    (hd : (x == ("__debug__" : Str)) = false := by decide) (hcd : (x == ("__classdict__" : Str)) = false := by decide) :
    SndS X ca W (.Expr (.Call (.Attribute (.Name x px) "append" ap) [e] [] cp) pos) (sApp i fe) := fun Γ =>
  psimp (ps_expr (pe_bm PySem.F.plainAttrs_list PySem.F.slot_list_append PySem.F.type_list_append mt_append (pe_var hN hv hd hcd) (pa_cons (snd_dat he Γ) pa_nil hst) hbase hfew hline hst hplain) hs) fun D σ H ⟨G, o, q⟩ => by
    unfold sApp at q
    split at q
    · rename_i ds es
      obtain ⟨a, u, e1, ha, ga, r⟩ := o.slot i _ es
      cases r with
      | @lst xs _ r =>
        refine ⟨.ref a, e1, .inl ⟨rfl, xs, .of ha⟩, G, o, (FinS.toE o q).imp fun v G1 H1 s1 ⟨m, d, G2, em, s2, rv, n, q2⟩ => ?_⟩
        cases dat_mode em
        have o2 := o.mono s2
        have ha2 := s2.keep _ _ ha
        by_cases c : ds.length ≤ 1000
        · rw [if_pos c] at q2
          have r2 := (r.mono s2.sub).append (.cons rv .nil)
          obtain ⟨o3, s3⟩ := o2.write es e1 (.lst r2)
          exact ⟨a, xs, v, rfl, rfl, ha2, small1000 (by rw [r.length]; exact c), q2 σ G2 _ (s2.s.trans s3) o3⟩
        · rw [if_neg c] at q2; exact False.elim q2
    · exact False.elim q
theorem dget_some {K : PySem.W.Frag} {G : Hp} {kvs : List (Key × V)} {ds : List (PyData × PyData)} {key : Key} (r : KReps K G kvs ds) {d : PyData} (h : dget ds (kD key) = some d) : ∃ v, valV kvs key = some v ∧ Rep K G v d := by
  have z := r.val key
  rw [h] at z
  cases e : valV kvs key with
  | none => rw [e] at z; exact z.elim
  | some v => rw [e] at z; exact ⟨v, rfl, z⟩
theorem snds_pop (hN : X.N[i]? = some x) (hv : Vis X.env.scope x) (he : Snd X ca W e fe) (m : M1 X (.Name x px) "pop" ap e cp) (hs : swapsWith (.Call (.Attribute (.Name x px) "pop" ap) [e] [] cp) none pos.line X.env = pure false := by rfl)
    (hd : (x == ("__debug__" : Str)) = false := by decide) (hcd : (x == ("__classdict__" : Str)) = false := by decide) :
    SndS X ca W (.Expr (.Call (.Attribute (.Name x px) "pop" ap) [e] [] cp) pos) (sPop i fe) := fun Γ =>
  psimp (ps_expr (pe_dpop1 (pe_var hN hv hd hcd) (he Γ) m) hs) fun D σ H ⟨G, o, q⟩ => by
    unfold sPop at q
    split at q
    · rename_i ds es
      obtain ⟨a, u, e1, ha, ga, r⟩ := o.slot i _ es
      cases r with
      | @dic kvs _ r =>
        refine ⟨.ref a, e1, a, rfl, .inl ⟨kvs, .of ha⟩, G, o, (FinS.toE o q).imp fun v G1 H1 s1 ⟨m, k, G2, em, s2, rv, n, q2⟩ => ?_⟩
        have o2 := o.mono s2
        have ha2 := s2.keep _ _ ha
        by_cases c : isKey k = true ∧ (dget ds k).isSome = true
        · rw [if_pos c] at q2
          obtain ⟨key, rfl⟩ := key_of_isKey c.1
          obtain ⟨d0, hd0⟩ := Option.isSome_iff_exists.mp c.2
          obtain ⟨w, hw, _⟩ := dget_some r hd0
          obtain ⟨o3, s3⟩ := o2.write es e1 (.dic (KReps.drop key (r.mono s2.sub)))
          exact ⟨kvs, key, w, ha2, rv.view.key, hw, q2 σ G2 _ (s2.s.trans s3) o3⟩
        · rw [if_neg c] at q2; exact False.elim q2
    · exact False.elim q
/-- d.update(e), both dicts -/
theorem d_update {pins : List (Addr × Obj)} {σ : St} {H : Hp} {s : Shared} {a b : Addr} {kvs more : List (Key × V)} {A : Around} {E : Value → Shared → Prop} {Q : Value → Shared → Prop} (I : Inv X pins σ H s) (ha : H a = some (.dK kvs)) (hb : Rd H b (.dK more)) (ne : a ≠ b) (hl : kvs.length + more.length ≤ sizeLine)
    (h : ∀ s', Inv X pins σ (upd H a (.dK (mergeK kvs more))) s' → Q .none s') : wpAny (model X.prog X.w) A (call (.builtin "dict.update") [.ref a, .ref b]) Q E s := by
  obtain ⟨_, hsa, va, ra, da⟩ := dk_of I.hok ha
  obtain ⟨_, hsb, vb, rb, db⟩ := dk_rd I.hok hb
  refine call_meetsIn PySem.F.slot_dict_update da.typeIs PySem.F.entry_dict_update (PySem.F.args_dict_update_2 _ _) (meets_dict_update (mixKind X.prog X.w) a b ne hsb)
    ⟨va, vb, da, db, by rw [← ra.length, ← rb.length]; exact hl, fun h' dm _ same => h _ ?_⟩
  have there : ∃ q, h'.get? a = some q := let ⟨q, _, _, hq, _⟩ := dm; ⟨q, hq⟩
  exact d_write (t' := s.toks) I (by rw [ha]; exact True.intro) same there (dk_new (Nat.le_trans (length_mergeK more kvs) hl) hsa (KV.merge rb ra) dm)
/-- d.update(e) as an expression: the dict is a name's -/
def tDUpd (i : Nat) (ty : TE) : TE := fun σ H Q => ∃ a kvs, σ[i]? = some (some (.ref a)) ∧ H a = some (.dK kvs) ∧ ty σ H fun y H2 => ∃ b ks more, y = .ref b ∧ H2 a = some (.dK ks) ∧ Rd H2 b (.dK more) ∧ a ≠ b ∧ ks.length + more.length ≤ sizeLine ∧ Q .non (upd H2 a (.dK (mergeK ks more)))
theorem pe_dupd {ty : TE} (hN : X.N[i]? = some x) (hv : Vis X.env.scope x) (he : PE X e ty) (m : M1 X (.Name x px) "update" ap e cp) (hd : (x == ("__debug__" : Str)) = false := by decide) (hcd : (x == ("__classdict__" : Str)) = false := by decide) :
    PE X (.Call (.Attribute (.Name x px) "update" ap) [e] [] cp) (tDUpd i ty) := by
  refine ⟨fun pins s σ H Q I ⟨a, kvs, e1, ha, q⟩ => ?_⟩
  refine wpAny_Call_method m.base m.few m.line PySem.F.plainAttrs_dict PySem.F.slot_dict_update PySem.F.type_dict_update (thn ((pe_var (i := i) hN hv hd hcd).run pins s σ H (fun v H1 => v = .ref a ∧ H1 = H) I ⟨_, e1, rfl, rfl⟩) fun u s1 ⟨v, H1, I1, rv, ev, eH⟩ => ?_)
  subst ev eH
  obtain rfl : u = Value.ref a := rv
  obtain ⟨t1, t2, _⟩ := isD_at I1 (.inl ⟨kvs, .of ha⟩)
  refine ⟨t1, t2, ?_⟩
  rw [m.trees]
  refine Calls.callWith_builtin rfl (Calls.evalArgs_plain (Calls.spliced_cons (thn (he.run pins s1 σ _ _ I1 q) fun w s2 ⟨y, H2, I2, ry, b, ks, more, ey, h1, h2, ne, hl, q2⟩ => Calls.spliced_nil ?_)))
  subst ey
  obtain rfl : w = Value.ref b := ry
  exact d_update I2 h1 h2 ne hl fun s3 I3 => ⟨.non, _, I3, rfl, q2⟩
theorem snds_upd (hN : X.N[i]? = some x) (hv : Vis X.env.scope x) (he : Snd X ca W e fe) (m : M1 X (.Name x px) "update" ap e cp) (hs : swapsWith (.Call (.Attribute (.Name x px) "update" ap) [e] [] cp) none pos.line X.env = pure false := by rfl)
    (hd : (x == ("__debug__" : Str)) = false := by decide) (hcd : (x == ("__classdict__" : Str)) = false := by decide) :
    SndS X ca W (.Expr (.Call (.Attribute (.Name x px) "update" ap) [e] [] cp) pos) (sUpd i fe) := fun Γ =>
  psimp (ps_expr (pe_dupd hN hv (snd_dat he Γ) m hd hcd) hs) fun D σ H ⟨G, o, q⟩ => by
    unfold sUpd at q
    split at q
    · rename_i ds es
      obtain ⟨a, u, e1, ha, ga, r⟩ := o.slot i _ es
      cases r with
      | @dic kvs _ r =>
        refine ⟨a, kvs, e1, ha, G, o, (FinS.toE o q).imp fun v G1 H1 s1 ⟨m, d, G2, em, s2, rv, n, q2⟩ => ?_⟩
        cases dat_mode em
        have o2 := o.mono s2
        have ha2 := s2.keep _ _ ha
        cases d with
        | dict more =>
          dsimp only at q2
          by_cases c : okK more = true ∧ ds.length + more.length ≤ 1000
          · rw [if_pos c] at q2
            cases rv with
            | @dic b ks _ hb rm =>
              have ne : a ≠ b := fun z => by
                have g2 := s2.noneG ga (by rw [ha]; simp)
                rw [z, hb] at g2; cases g2
              obtain ⟨o3, s3⟩ := o2.write es e1 (.dic (KReps.merge (r.mono s2.sub) rm))
              exact ⟨b, kvs, ks, rfl, ha2, s2.good.rdk hb, ne, line1000 (by rw [r.length, rm.length]; exact c.2), q2 σ G2 _ (s2.s.trans s3) o3⟩
            | odd _ _ _ _ _ z => have ck := c.1; unfold okK at ck; simp [z] at ck
          · rw [if_neg c] at q2; exact False.elim q2
        | _ => exact False.elim q2
    · exact False.elim q
theorem snds_putpop {ek ej : Expr} {fk fj : Ev} {px2 pt : Pos} (hu : X.A.units + 1 < cLine) (hN : X.N[i]? = some x) (hv : Vis X.env.scope x) (hk : Snd X ca W ek fk) (hj : Snd X ca W ej fj) (m : M1 X (.Name x px2) "pop" ap ej cp)
    (hs : swapsWithSole [.Subscript (.Name x px) ek pt] (.Call (.Attribute (.Name x px2) "pop" ap) [ej] [] cp) pos.line X.env = pure false := by rfl) (hw : swappedStores [.Subscript (.Name x px) ek pt] (.Call (.Attribute (.Name x px2) "pop" ap) [ej] [] cp) X.env = pure none := by rfl)
    (h1 : (assignEach [.Subscript (.Name x px) ek pt] X.env).map (·.2) = [assign (.Subscript (.Name x px) ek pt) X.env] := by rfl)
    (ha : ∀ v, assign (.Subscript (.Name x px) ek pt) X.env v = (do
      let ov ← holding [v] (eval (.Name x px) X.env)
      let iv ← holding [v, ov] (eval ek X.env)
      standAt pt
      holding [v, ov, iv] (setItem ov iv v)
      release [v, ov, iv] []) := by intro _; rfl) (hd : (x == ("__debug__" : Str)) = false := by decide) (hcd : (x == ("__classdict__" : Str)) = false := by decide) :
    SndS X ca W (.Assign [.Subscript (.Name x px) ek pt] (.Call (.Attribute (.Name x px2) "pop" ap) [ej] [] cp) pos) (sPutPop i fk fj) := fun Γ => by
  -- the key's context: behind the pop
  have hk' : PE X ek (tEAny X.K ca W fk) := ⟨fun p s' σ H' Q I ⟨Γ', q⟩ => (hk Γ').run p s' σ H' Q I q⟩
  refine psimp (ps_asg (pe_dpop1 (pe_var hN hv hd hcd) (hj Γ) m) (pg_sub (pe_var hN hv hd hcd) hk' (set_any hu) ha) hs hw h1) fun D σ H ⟨G, o, q⟩ => ?_
  unfold sPutPop at q
  split at q
  · rename_i ds es
    obtain ⟨a, u, e1, ha, ga, r⟩ := o.slot i _ es
    cases r with
    | @dic kvs _ r =>
      refine ⟨.ref a, e1, a, rfl, .inl ⟨kvs, .of ha⟩, G, o, (FinS.toE o q).imp fun y G1 H1 s1 ⟨m, j, G2, em, s2, rj, n, q2⟩ => ?_⟩
      have o2 := o.mono s2
      have ha2 := s2.keep _ _ ha
      by_cases c : isKey j = true ∧ ds.length ≤ 1000
      · rw [if_pos c] at q2
        obtain ⟨jk, rfl⟩ := key_of_isKey c.1
        cases hv0 : dget ds (kD jk) with
        | none => rw [hv0] at q2; exact False.elim q2
        | some dv =>
          rw [hv0] at q2
          obtain ⟨w, hw, rw'⟩ := dget_some (r.mono s2.sub) hv0
          obtain ⟨o3, s3⟩ := o2.write es e1 (.dic (KReps.drop jk (r.mono s2.sub)))
          refine ⟨kvs, jk, w, ha2, rj.view.key, hw, ?_⟩
          -- the store
          refine ⟨.ref a, e1, _, G2, o3, (FinS.toE o3 (FinS.later (s2.s.trans s3) q2)).imp fun k G3 H3 s3' ⟨mk, dk, G4, emk, s4, rk, nk, q4⟩ => ?_⟩
          by_cases ck : isKey dk = true
          · rw [if_pos ck] at q4
            obtain ⟨kk, rfl⟩ := key_of_isKey ck
            have o4 := o3.mono s4
            have ha4 : H3 a = some (.dK (dropK kvs jk)) := s4.keep _ _ upd_same
            have hl : i < Γ.length := by
              rcases Nat.lt_or_ge i Γ.length with z | z
              · exact z
              · rw [List.getElem?_eq_none z] at es; cases es
            have es4 : (Γ.set i (SV.own (PyData.dict (ddrop ds (kD jk)))))[i]? = some (SV.own (PyData.dict (ddrop ds (kD jk)))) := List.getElem?_set_self hl
            have r4 := (KReps.drop jk (r.mono s2.sub)).mono s4.sub
            obtain ⟨o5, s5⟩ := o4.write es4 e1 (.dic (KReps.put (rw'.mono s4.sub) kk r4))
            rw [List.set_set] at o5 s5
            have ll : (dropK kvs jk).length ≤ 1000 := Nat.le_trans (dropK_le kvs jk) (by rw [r.length]; exact c.2)
            exact .inr ⟨a, _, rfl, by rw [rk.view.key]; exact .k ha4 (small1000 ll), (FinS.later s4.s q4) σ G4 _ s5 o5⟩
          · rw [if_neg ck] at q4; exact False.elim q4
      · rw [if_neg c] at q2; exact False.elim q2
  · exact False.elim q
end
end Vb
/-! Vq: a def keeps its promise, by its body. -/
namespace Vb
open PySem PySem.Spec PyProof.Rows L2
/-- the names at the entry -/
def env0 (n : Nat) (ds : List D) : Env := ds.map SV.dat ++ List.replicate (n - ds.length) .un
def runS (n : Nat) (f : Ss) (ds : List D) : Out := match f (env0 n ds) with
  | .nx _ => .ok .dat .none
  | .ret m d => .ok m d
  | .err x => .err x
  | .stuck => .stuck
theorem stok0 {K : PySem.W.Frag} {G H : Hp} {N : List Str} {vs : List V} {ds : List D} (g : Good G H) (r : Reps K G vs ds) (hl : vs.length ≤ N.length) : StOk K G H (env0 N.length ds) (L2.start N vs) ∧ ∀ a, ¬ Own (env0 N.length ds) (L2.start N vs) a := by
  have hr := r.length
  have noOwn : ∀ (i : Nat) (d : D), (env0 N.length ds)[i]? ≠ some (SV.own d) := fun i d e => by
    unfold env0 at e
    rcases Nat.lt_or_ge i ds.length with h | h
    · rw [List.getElem?_append_left (by simpa using h), List.getElem?_map] at e
      cases q : ds[i]? with
      | none => rw [q] at e; cases e
      | some z => rw [q] at e; cases e
    · rw [List.getElem?_append_right (by simpa using h), List.getElem?_replicate] at e
      split at e <;> cases e
  refine ⟨⟨g, ?_, fun i sv e => ?_, fun i j d1 d2 a e1 e2 _ _ => absurd e1 (noOwn i d1)⟩, fun a ⟨i, d, e1, _⟩ => noOwn i d e1⟩
  · unfold env0 L2.start
    rw [List.length_append, List.length_append, List.length_map, List.length_map, List.length_replicate, List.length_replicate, hr]
  · cases sv with
    | un => trivial
    | own d => exact absurd e (noOwn i d)
    | dat d =>
      unfold env0 at e
      rcases Nat.lt_or_ge i ds.length with h | h
      · rw [List.getElem?_append_left (by simpa using h), List.getElem?_map] at e
        cases q : ds[i]? with
        | none => rw [q] at e; cases e
        | some z =>
          rw [q] at e
          cases e
          obtain ⟨v, h1, h2⟩ := r.get q
          refine ⟨v, ?_, h2⟩
          unfold L2.start
          rw [List.getElem?_append_left (by rw [List.length_map, hr]; exact h), List.getElem?_map, h1]
          rfl
      · rw [List.getElem?_append_right (by simpa using h), List.getElem?_replicate] at e
        split at e <;> cases e
section
variable {P : Program} {w : World} {K : PySem.W.Frag} {mg : Str → Option Value} {base : Heap} {ca : String → Addr}
/-- the context of a def's body -/
abbrev bodyX (P : Program) (w : World) (K : PySem.W.Frag) (mg : Str → Option Value) (base : Heap) (N : List Str) (qual : Str) (scope : Scope) (f : Addr) (cdv : Value) (A : Around) (outer : List PySem.Env) (s : Shared) (H : Hp) (E : XK) : Cx :=
  cxOf (L2.CX P w) P w K mg base N qual scope f cdv A outer s H E
abbrev WB (E : XK) : WX := fun c dx _ H => E c dx H
theorem fnv_raw {k : Nat} {f : Addr} {name qual : Str} {params : Arguments} {body : List Stmt} {scope : Scope} {dV kV doc pm cdv ct oc : Value} {an od : Option Addr} {osl : Array (Option Value)} {N ps : List Str} {sp : Sp}
    (lk : K.lookup f = some ⟨oc, od, .func (PySem.W.fnOf name qual params body scope dV kV doc pm an cdv ct), osl⟩) (hcd : PySem.W.codeIn K cdv qual = true) (S : FnScope N ps scope) (len : ∀ vs H Q E, sp vs H Q E → vs.length = ps.length)
    (hbody : ∀ (A : Around) (outer : List PySem.Env) (s : Shared) (H : Hp) (vs : List V) (Q : VK) (E : XK), RoomV k (A.deeper (envOfC qual scope s.heap.objs.size f cdv)) → sp vs H Q E →
      ∃ t, PSs (bodyX P w K mg base N qual scope f cdv A outer s H E) body t ∧ t { nx := fun _ H' => Q .non H', rt := Q } (L2.start N vs) H) : FnV P w K mg base (k + 1) f (PySem.W.fnOf name qual params body scope dV kV doc pm an cdv ct) ps sp := by
  refine ⟨len, fun A outer s H args us vs Q E hr e0 hb r hsp => ?_⟩
  have here : ∀ b o, base.get? b = some o → s.heap.get? b = some o := fun b o e => (e0.bs b o e).1
  have nolim := e0.mod.nolimit.keeps here
  have written : K.In s.heap := e0.mod.kin.keeps here
  refine codeAny_call_function hr.room.depth (written _ _ lk) rfl S.co S.gen rfl (PySem.W.codeRec_of written hcd) (hb _ _ _ _ ?_)
  refine wpAny_newFunctionEnv_cells S.kind (fun y hy => ?_) fun env he s1 entered => ?_
  · rcases S.par y.1 (List.of_mem_zip (show (y.1, y.2) ∈ ps.zip us from hy)).1 with z | z
    · exact .inl z
    · exact .inr ⟨z, PySem.W.cellsFrom_some _ _ _ (.inl z)⟩
  · subst he
    refine ⟨nolim.keeps entered.toInCall.keep, codeAny_func ?_⟩
    obtain ⟨t, run, q⟩ := hbody A outer s H vs Q E ⟨hr.room.deeper _, hr.gd⟩ hsp
    have inv := inv_start (CX := L2.CX P w) (E := E) S hr.room.hd e0 (len _ _ _ _ hsp) r entered
    refine wpAny_mono (run.run [] s1 (L2.start N vs) H _ inv q) (fun fl s' end_ => ?_) fun _ _ z => z
    cases fl with
    | ret u =>
      obtain ⟨v, σ', H', J, rv, q'⟩ := end_
      exact ⟨v, H', J.os, J.bare, J.base, J.hok, rv, q'⟩
    | next =>
      obtain ⟨σ', H', J, q'⟩ := end_
      exact ⟨V.non, H', J.os, J.bare, J.base, J.hok, rfl, q'⟩
    | brk => exact (let ⟨_, _, _, z⟩ := end_; False.elim z)
    | cont => exact (let ⟨_, _, _, z⟩ := end_; False.elim z)
/-- THE RULE -/
theorem fnv_of {k : Nat} {f : Addr} {fd : FuncData} {name qual : Str} {params : Arguments} {body : List Stmt} {scope : Scope} {N ps : List Str} {fS : Ss} (Fn : FunD K name qual params body scope [] [] f fd) (S : FnScope N ps scope)
    (hb : ∀ (cdv : Value) (A : Around) (outer : List PySem.Env) (s : Shared) (H : Hp) (E : XK), RoomV k (A.deeper (envOfC qual scope s.heap.objs.size f cdv)) → SndB (bodyX P w K mg base N qual scope f cdv A outer s H E) ca (WB E) body fS) :
    FnV P w K mg base (k + 1) f fd ps (spD K ca ps.length (runS N.length fS)) := by
  obtain ⟨oc, od, dV, kV, doc, pm, an, cdv, ct, osl, rfl, lk, hcd, _, _⟩ := Fn.ex
  refine fnv_raw lk hcd S (fun vs H Q E h => h.1) fun A outer s H vs Q E hr hsp => ?_
  obtain ⟨hl, G, ds, g, r, nb, q⟩ := hsp
  have hN : vs.length ≤ N.length := by
    have z := congrArg List.length S.pre
    rw [List.length_take] at z
    omega
  obtain ⟨o, no⟩ := stok0 (K := K) (N := N) g r hN
  refine ⟨_, hb cdv A outer s H E hr (env0 N.length ds), G, o, ?_⟩
  -- the outcome
  unfold runS at q nb
  have up : ∀ {G' H' : Hp} {O' : Addr → Prop}, SStp G H (Own (env0 N.length ds) (L2.start N vs)) G' H' O' → Good G' H' → Stp G H G' H' := fun {G' H' O'} s' g' =>
    ⟨fun a u e => s'.keep a u e (no a), s'.sub, fun a h => (s'.new a h).elim .inl fun z => .inr (z.resolve_left (no a)), g'⟩
  revert q nb
  cases e : fS (env0 N.length ds) with
  | stuck => exact fun _ q => q
  | err x => exact fun _ q c dx σ' G' H' O' s' g' xr => q c dx G' H' (up s' g') xr
  | nx Γ' => exact fun _ q σ' G' H' s' o' => q .non G' H' (up s' o'.good) .non trivial
  | ret m d =>
    intro nb q
    have hm : m ≠ .bor := fun z => nb d (by rw [z])
    refine ⟨hm, fun v G' H' O' s' g' rv n => q v G' H' (up s' g') rv ?_⟩
    cases m with
    | own => exact fun a ea => (n rfl a ea).resolve_left (no a)
    | dat => trivial
    | bor => trivial
theorem callee_of {X : Cx} {k n : Nat} {x qual : Str} {params : Arguments} {body : List Stmt} {scope : Scope} {f : Addr} {fd : FuncData} {ps : List Str} {F : List D → Out} (V : FnV X.prog X.w X.K X.mg X.base k f fd ps (spD X.K ca n F)) (Fn : FunD X.K x qual params body scope [] [] f fd) (hm : X.mg x = some (.ref f)) (hb : Binds X.K fd ps []) :
    Callee X ca k x n F := ⟨f, fd, ps, V, hm, Fn.kp, hb⟩
end
end Vb
/-! Vr: + of lists and tuples, text * n, slices, get, join, is of bools. -/
namespace PySem.AutoSeq1
theorem Vb_listAdd (l : Addr) (items : Array Value) (n : Nat) (sl : Array (Option Value)) (b : Addr) (items2 : Array Value) (n2 : Nat) (sl2 : Array (Option Value)) (hc0 : items.size + items2.size ≤ sizeLine) :
    Meets (Builtin.«list.__add__» ⟨[.ref l, .ref b], []⟩) (fun _ R s => s.heap.get? l = some { cls := .type "list", dict := none, data := .seq items n, slots := sl } ∧ s.heap.get? b = some { cls := .type "list", dict := none, data := .seq items2 n2, slots := sl2 } ∧ R (.ok (.ret (Value.ref s.heap.objs.size))) { s with heap := s.heap.push { cls := Value.type "list", data := Data.seq (items ++ items2) }, toks := s.toks }) :=
  .of_wp fun prog w A R s h => by obtain ⟨hp, g, d, tk, os⟩ := s; obtain ⟨hl, hb, h⟩ := h; have f1 := idx_int; have f2 := sub_tuple_tuple; have f3 := sub_list_list; have f4 := sub_tuple_list; have f5 := sub_list_tuple; wp_walk using wpAny_loadPart' hl, wpAny_loadPart' hb; exact ⟨_, rfl, h⟩
end PySem.AutoSeq1
namespace Vb
open PySem PySem.Spec PyProof.Rows L2
def gPlus : D → D → Option (Md × D)
  | .list xs, .list ys => if xs.length + ys.length ≤ 2000 then some (.own, .list (xs ++ ys)) else none
  | .tuple xs, .tuple ys => if xs.length + ys.length ≤ 2000 then some (.dat, .tuple (xs ++ ys)) else none
  | x, y => gAdd x y
section
variable {X : Cx} {ca : String → Addr} {W : WX}
theorem cat_lists {pins : List (Addr × Obj)} {σ : St} {H : Hp} {s : Shared} {a b : Addr} {xs ys : List V} {Q : VK} (I : Inv X pins σ H s) (ha : SqL X.K H a xs) (hb : SqL X.K H b ys) (hl : xs.length + ys.length ≤ sizeLine)
    (q : ∀ p, H p = none → Q (.ref p) (upd H p (.lst (xs ++ ys)))) : wpAny (model X.prog X.w) X.A (binaryOp .Add (.ref a) (.ref b)) (EP X pins σ Q) X.xe s := by
  obtain ⟨i1, r1, ⟨⟨c1, d1, t1, sl1⟩, n1, g1, e1, e2, e3⟩, _⟩ := I.list ha
  obtain ⟨i2, r2, ⟨⟨c2, d2, t2, sl2⟩, n2, g2, e4, e5, e6⟩, _⟩ := I.list hb
  dsimp only at e1 e2 e3 e4 e5 e6
  subst e1 e2 e3 e4 e5 e6
  refine concat_meets ⟨_, g1, rfl⟩ ⟨_, g2, rfl⟩ PySem.noFill_list_add PySem.seq_list_add PySem.F.slot_list_add PySem.F.entry_list_add (PySem.F.args_list_add_2 _ _) (PySem.AutoSeq1.Vb_listAdd a i1.toArray n1 sl1 b i2.toArray n2 sl2 (by rw [List.size_toArray, List.size_toArray, ← r1.length, ← r2.length]; exact hl)) ⟨g1, g2, ?_⟩
  have ea : i1.toArray ++ i2.toArray = (i1 ++ i2).toArray := by simp
  rw [ea]
  exact ⟨.ref _, _, I.lnew (t' := s.toks) (r1.append r2) (by rw [List.length_append]; exact hl), rfl, q _ I.fresh⟩
theorem gPlus_ok : OpR X (binaryOp .Add) (rD X.K gPlus) := by
  intro pins s σ H x y v u Q I rx ry h
  obtain ⟨G, dx, dy, m, d, g, vx, vy, e, q⟩ := h
  unfold gPlus at e
  split at e
  · split at e
    · rename_i hl
      cases e
      obtain ⟨a, as, rfl, ha, r1⟩ := vx.lst g
      obtain ⟨b, bs, rfl, hb, r2⟩ := vy.lst g
      cases rx; cases ry
      exact cat_lists I ha hb ((show _ ≤ sizeLine by unfold sizeLine; rw [r1.length, r2.length]; omega)) fun p np => new_own g q (.lst (r1.append r2)) np
    · cases e
  · split at e
    · rename_i hl
      cases e
      obtain ⟨a, as, rfl, ha, r1⟩ := vx.tup g
      obtain ⟨b, bs, rfl, hb, r2⟩ := vy.tup g
      refine op_catA pins s σ H _ _ v u Q I rx ry ⟨a, b, as, bs, rfl, rfl, .of ha, .of hb, (show _ ≤ sizeLine by unfold sizeLine; rw [r1.length, r2.length]; omega), fun e1 => ?_, fun _ e2 => ?_, fun _ _ p np => new_tup g q (r1.append r2) np⟩
      · subst e1
        cases r1
        rcases vy with vy | ⟨_, _, _, _, z⟩
        · exact rD_scalar g q vy
        · cases z
      · subst e2
        cases r2
        rw [List.append_nil] at q
        rcases vx with vx | ⟨_, _, _, _, z⟩
        · exact rD_scalar g q vx
        · cases z
    · cases e
  · exact gAdd_ok pins s σ H x y v u Q I rx ry ⟨G, _, _, m, d, g, vx, vy, e, q⟩
end
end Vb
/-! Vt: slices, - of ints, get, join, text * n, is of bools. -/
namespace Vb
open PySem PySem.Spec PyProof.Rows L2
/-! ### slices -/
def cutG {α : Type} (xs : List α) (lo hi : Option Int) : List α := (xs.drop (HT.sIx xs.length 0 lo)).take (HT.sIx xs.length xs.length hi - HT.sIx xs.length 0 lo)
def gSl : D → Option Int → Option Int → Option (Md × D)
  | .list ds, lo, hi => some (.own, .list (cutG ds lo hi))
  | .tuple ds, lo, hi => some (.dat, .tuple (cutG ds lo hi))
  | .str x, lo, hi => if x.length ≤ sizeLine then some (.dat, .str (cutS x lo hi)) else none
  | _, _, _ => none
theorem Reps.cut {K : PySem.W.Frag} {G : Hp} {vs : List V} {ds : List D} (r : Reps K G vs ds) (lo hi : Option Int) : Reps K G (cutV vs lo hi) (cutG ds lo hi) := by
  unfold cutV cutG
  rw [r.length]
  exact (r.drop _).take _
def pInt : D → Option (Option Int)
  | .none => some none
  | .int i => some (some i)
  | _ => none
/-- a part: None where it is left out -/
def eI (f : Ev) : Ev := fun Γ => match f Γ with
  | .ok m (.int i) => .ok m (.int i)
  | .ok _ _ => .stuck
  | o => o
def outSl (x : D) (lo : Option Int) (h : D) : Out := match pInt h with
  | none => .stuck
  | some hi => (match gSl x lo hi with
    | some (m, d) => .ok m d
    | none => .stuck)
def eSl (f lo hi : Ev) : Ev := fun Γ => (f Γ).bind fun _ x => (lo Γ).bind fun _ l => match pInt l with
  | none => .stuck
  | some lo => (hi Γ).bind fun _ h => outSl x lo h
def tOO (K : PySem.W.Frag) (ca : String → Addr) (W : WX) (f : Ev) (Γ : Env) : TO := fun σ H Q => ∃ G, StOk K G H Γ σ ∧ Fin K ca W σ G H (fun v H1 => ∃ o, ((v = .non ∧ o = none) ∨ ∃ i, v = .int i ∧ o = some i) ∧ Q o H1) (f Γ)
def SndO (X : Cx) (ca : String → Addr) (W : WX) (e : Option Expr) (f : Ev) : Prop := ∀ Γ, PO X e (tOO X.K ca W f Γ)
theorem poimp {X : Cx} {e : Option Expr} {t t' : TO} (h : PO X e t) (i : ∀ σ H Q, t' σ H Q → t σ H Q) : PO X e t' := ⟨fun p s σ H Q I q => h.run p s σ H Q I (i _ _ _ q)⟩
section
variable {X : Cx} {ca : String → Addr} {W : WX}
theorem sndo_none : SndO X ca W none (eC .none) := fun Γ => poimp po_none fun σ H Q ⟨G, o, q⟩ => by
  obtain ⟨oo, h, q'⟩ := q .non G H (.refl o.good) .non trivial
  rcases h with ⟨_, rfl⟩ | ⟨i, z, _⟩
  · exact q'
  · cases z
theorem sndo_some {e : Expr} {f : Ev} (h : Snd X ca W e f) : SndO X ca W (some e) (eI f) := fun Γ => poimp (po_some (h Γ)) fun σ H Q ⟨G, o, q⟩ => by
  refine ⟨G, o, ?_⟩
  unfold eI at q
  revert q
  cases f Γ with
  | stuck => exact fun q => q
  | err x => exact fun q => q
  | ok m d =>
    cases d with
    | int i =>
      intro q v G1 H1 s r n
      have ev := r.view.int
      subst ev
      obtain ⟨oo, h, q'⟩ := q _ G1 H1 s r n
      rcases h with ⟨z, _⟩ | ⟨j, z, rfl⟩
      · cases z
      · cases z; exact ⟨i, rfl, q'⟩
    | _ => exact fun q => False.elim q
def rSlD (K : PySem.W.Frag) : V → Option Int → Option Int → Hp → VK → Prop := fun x lo hi H Q => rSlL K x lo hi H Q ∨ rSlA K x lo hi H Q ∨ rSlS x lo hi H Q
theorem sl_any : SlR X (rSlD X.K) := SlR.or sl_list (SlR.or sl_tupA sl_str)
theorem cutG_whole {α : Type} (xs : List α) (lo hi : Option Int) (h : HT.sIx xs.length 0 lo = 0 ∧ HT.sIx xs.length xs.length hi = xs.length) : cutG xs lo hi = xs := by
  unfold cutG
  rw [h.1, h.2, List.drop_zero, Nat.sub_zero, List.take_length]
theorem gSl_run {K : PySem.W.Frag} {G H : Hp} {x : V} {dx : D} {lo hi : Option Int} {m : Md} {d : D} {Q : VK} (g : Good G H) (vx : View K G H x dx) (e : gSl dx lo hi = some (m, d))
    (q : ∀ v G' H', Stp G H G' H' → RVal K G' H' v d m → New1 H v m → Q v H') : rSlD K x lo hi H Q := by
  unfold gSl at e
  split at e
  · cases e
    obtain ⟨a, xs, rfl, hs, r⟩ := vx.lst g
    exact .inl ⟨a, xs, rfl, hs, fun p np => new_own g q (.lst (r.cut _ _)) np⟩
  · cases e
    rcases vx with vx | ⟨_, _, _, _, z⟩
    · obtain ⟨a, xs, rfl, hs, r⟩ := View.tup g (.inl vx)
      refine .inr (.inl ⟨a, xs, rfl, .of hs, fun hw => ?_, fun _ p np => new_tup g q (r.cut _ _) np⟩)
      rw [r.length] at hw
      rw [cutG_whole _ _ _ hw] at q
      exact rD_scalar g q vx
    · cases z
  · split at e
    · rename_i hl
      cases e
      cases vx.str
      exact .inr (.inr ⟨_, rfl, hl, rD_scalar g q (.str _)⟩)
    · cases e
  · cases e
theorem pInt_of {v : V} {l : D} {K : PySem.W.Frag} {G H : Hp} {m : Md} (r : RVal K G H v l m) {lo : Option Int} (e : pInt l = some lo) : (v = .non ∧ lo = none) ∨ ∃ i, v = .int i ∧ lo = some i := by
  unfold pInt at e
  split at e
  · cases e
    exact .inl ⟨r.view.non, rfl⟩
  · cases e
    exact .inr ⟨_, r.view.int, rfl⟩
  · cases e
theorem snd_sl {e : Expr} {lo hi : Option Expr} {f fl fh : Ev} {pos p2 : Pos} (h : Snd X ca W e f) (hl : SndO X ca W lo fl) (hh : SndO X ca W hi fh) : Snd X ca W (.Subscript e (.Slice lo hi none p2) pos) (eSl f fl fh) := fun Γ =>
  pimp (pe_slice sl_any (h Γ) (hl Γ) (hh Γ)) fun σ H Q ⟨G, o, q⟩ => ⟨G, o, q.bind.imp fun x G1 H1 s1 ⟨m, d, G2, e1, s2, rx, n1, q2⟩ => by
    refine ⟨G2, o.mono s2, (q2.later s2).bind.imp fun vl G3 H3 s3 ⟨ml, dl, G4, e3, s4, rl, n3, q4⟩ => ?_⟩
    have q5 := q4.later s4
    cases el : pInt dl with
    | none => rw [el] at q5; exact False.elim q5
    | some lo' =>
      rw [el] at q5
      refine ⟨lo', pInt_of rl el, G4, (o.mono s2).mono s4, q5.bind.imp fun vh G5 H5 s5 ⟨mh, dh, G6, e5, s6, rh, n5, q6⟩ => ?_⟩
      have q7 := q6.later s6
      unfold outSl at q7
      cases eh : pInt dh with
      | none => rw [eh] at q7; exact False.elim q7
      | some hi' =>
        rw [eh] at q7
        dsimp only at q7
        refine ⟨hi', pInt_of rh eh, ?_⟩
        cases eg : gSl d lo' hi' with
        | none => rw [eg] at q7; exact False.elim q7
        | some p =>
          obtain ⟨m8, d8⟩ := p
          rw [eg] at q7
          exact gSl_run s6.good (rx.view.mono (s4.trans s6)) eg q7⟩
/-! ### - e -/
def gNeg : D → Option D
  | .int i => some (.int (-i))
  | _ => none
def eNeg (f : Ev) : Ev := fun Γ => (f Γ).bind fun _ x => match gNeg x with
  | some d => .ok .dat d
  | none => .stuck
theorem snd_neg {e : Expr} {f : Ev} {pos : Pos} (h : Snd X ca W e f) : Snd X ca W (.UnaryOp .USub e pos) (eNeg f) := fun Γ =>
  pimp (pe_un un_neg (h Γ)) fun σ H Q ⟨G, o, q⟩ => ⟨G, o, q.bind.imp fun x G1 H1 s1 ⟨m, d, G2, e1, s2, rx, n1, q2⟩ => by
    have q3 := q2.later s2
    unfold gNeg at q3
    split at q3
    · rename_i d' e3
      split at e3
      · cases e3
        have := rx.view.int
        subst this
        exact ⟨_, rfl, q3 _ G2 H1 (.refl s2.good) (.int _) trivial⟩
      · cases e3
    · exact False.elim q3⟩
/-! ### d.get(k), d.get(k, x) -/
def eGet1 (f k : Ev) : Ev := fun Γ => (f Γ).bind fun _ x => match x with
  | .dict ds => if okK ds = true then ((k Γ).bind fun _ y => if isKey y = true then .ok .dat ((dget ds y).getD .none) else .stuck) else .stuck
  | _ => .stuck
def eGet2 (f k z : Ev) : Ev := fun Γ => (f Γ).bind fun _ x => match x with
  | .dict ds => if okK ds = true then ((k Γ).bind fun _ y => if isKey y = true then (eDat z Γ).bind fun _ w => .ok .dat ((dget ds y).getD w) else .stuck) else .stuck
  | _ => .stuck
theorem dgetD {K : PySem.W.Frag} {G : Hp} {kvs : List (Key × V)} {ds : List (D × D)} {z : V} {w : D} (r : KReps K G kvs ds) (rz : Rep K G z w) (k : Key) : Rep K G ((valV kvs k).getD z) ((dget ds (kD k)).getD w) := by
  have h := r.val k
  revert h
  cases valV kvs k <;> cases dget ds (kD k) <;> intro h
  · exact rz
  · exact h.elim
  · exact h.elim
  · exact h
theorem View.dicK {K : PySem.W.Frag} {G H : Hp} {v : V} {ds : List (D × D)} (g : Good G H) (hk : okK ds = true) (h : View K G H v (.dict ds)) : ∃ a kvs, v = .ref a ∧ KReps K G kvs ds ∧ ∀ G' H', Stp G H G' H' → Rd H' a (.dK kvs) := by
  rcases h with h | ⟨a, u, e, h, r⟩
  · cases h with
    | dic h r => exact ⟨_, _, rfl, r, fun G' H' s => s.good.rdk (s.sub _ _ h)⟩
    | odd _ _ _ _ _ z => unfold okK at hk; simp [z] at hk
  · cases r with
    | dic r => exact ⟨a, _, e, r, fun G' H' s => .of (s.keep _ _ h)⟩
theorem snd_get1 {o e : Expr} {f k : Ev} {apos cpos : Pos} (hu : X.A.units + 1 < cLine) (ho : Snd X ca W o f) (he : Snd X ca W e k) (m : M1 X o "get" apos e cpos) : Snd X ca W (.Call (.Attribute o "get" apos) [e] [] cpos) (eGet1 f k) := fun Γ =>
  pimp (pe_dget1 hu (ho Γ) (he Γ) m) fun σ H Q ⟨G, o, q⟩ => ⟨G, o, q.bind.imp fun x G1 H1 s1 ⟨m, d, G2, e1, s2, rx, n1, q2⟩ => by
    cases d with
    | dict ds =>
      by_cases hk : okK ds = true
      case neg => dsimp only at q2; rw [if_neg hk] at q2; exact False.elim q2
      dsimp only at q2
      rw [if_pos hk] at q2
      obtain ⟨a, kvs, rfl, r, rd⟩ := rx.view.dicK s2.good hk
      refine ⟨a, rfl, .inl ⟨kvs, rd _ _ (.refl s2.good)⟩, G2, o.mono s2, (q2.later s2).bind.imp fun y G3 H3 s3 ⟨mk, dk, G4, e3, s4, rk, n3, q4⟩ => ?_⟩
      have q5 := q4.later s4
      by_cases c : isKey dk = true
      · rw [if_pos c] at q5
        obtain ⟨key, rfl⟩ := key_of_isKey c
        exact ⟨_, .inl ⟨kvs, key, rd _ _ s4, rk.view.key, rfl⟩, rD_scalar s4.good q5 (dgetD (r.mono s4.sub) .non key)⟩
      · rw [if_neg c] at q5; exact False.elim q5
    | _ => exact False.elim q2⟩
theorem snd_get2 {o e z : Expr} {f k fz : Ev} {apos cpos : Pos} (hu : X.A.units + 1 < cLine) (ho : Snd X ca W o f) (he : Snd X ca W e k) (hz : Snd X ca W z fz) (m : M2 X o "get" apos e z cpos) : Snd X ca W (.Call (.Attribute o "get" apos) [e, z] [] cpos) (eGet2 f k fz) := fun Γ =>
  pimp (pe_dget2 hu (ho Γ) (he Γ) (snd_dat hz Γ) m) fun σ H Q ⟨G, o, q⟩ => ⟨G, o, q.bind.imp fun x G1 H1 s1 ⟨m, d, G2, e1, s2, rx, n1, q2⟩ => by
    cases d with
    | dict ds =>
      by_cases hk : okK ds = true
      case neg => dsimp only at q2; rw [if_neg hk] at q2; exact False.elim q2
      dsimp only at q2
      rw [if_pos hk] at q2
      obtain ⟨a, kvs, rfl, r, rd⟩ := rx.view.dicK s2.good hk
      refine ⟨a, rfl, .inl ⟨kvs, rd _ _ (.refl s2.good)⟩, G2, o.mono s2, (q2.later s2).bind.imp fun y G3 H3 s3 ⟨mk, dk, G4, e3, s4, rk, n3, q4⟩ => ?_⟩
      have q5 := q4.later s4
      by_cases c : isKey dk = true
      · rw [if_pos c] at q5
        obtain ⟨key, rfl⟩ := key_of_isKey c
        refine ⟨G4, (o.mono s2).mono s4, q5.bind.imp fun w G5 H5 s5 ⟨mz, dz, G6, e5, s6, rz, n5, q6⟩ => ?_⟩
        cases dat_mode e5
        exact ⟨_, .inl ⟨kvs, key, rd _ _ (s4.trans s6), rk.view.key, rfl⟩, rD_scalar s6.good (q6.later s6) (dgetD (r.mono (s4.trans s6).sub) rz key)⟩
      · rw [if_neg c] at q5; exact False.elim q5
    | _ => exact False.elim q2⟩
/-! ### text.join(list) -/
def gJoin : D → D → Option (Md × D)
  | .str a, .list ds => match txts ds with
    | some ys => if (ys.map (·.length)).sum + ys.length * a.length ≤ 16777216 then some (.dat, .str (Txt.join a ys)) else none
    | none => none
  | .str a, .tuple ds => match txts ds with
    | some ys => if (ys.map (·.length)).sum + ys.length * a.length ≤ 16777216 then some (.dat, .str (Txt.join a ys)) else none
    | none => none
  | _, _ => none
def eJoin (f k : Ev) : Ev := fun Γ => (f Γ).bind fun _ x => match x with
  | .str a => (k Γ).bind fun _ y => out2 gJoin (.str a) y
  | _ => .stuck
theorem snd_join {o e : Expr} {f k : Ev} {apos pos : Pos} (ho : Snd X ca W o f) (he : Snd X ca W e k) (hs : starEach [e] X.env = [(false, eval e X.env)] := by rfl) (hbase : attributeBase o "join" X.env (eval o X.env) = eval o X.env := by rfl) (hline : (apos.endLine == pos.line) = true := by rfl) :
    Snd X ca W (.Call (.Attribute o "join" apos) [e] [] pos) (eJoin f k) := fun Γ =>
  pimp (pe_join (ho Γ) (he Γ) hs hbase hline) fun σ H Q ⟨G, o, q⟩ => ⟨G, o, q.bind.imp fun x G1 H1 s1 ⟨m, d, G2, e1, s2, rx, n1, q2⟩ => by
    cases d with
    | str a =>
      have := rx.view.str
      subst this
      refine ⟨⟨a, rfl⟩, G2, o.mono s2, (q2.later s2).bind.imp fun y G3 H3 s3 ⟨mk, dk, G4, e3, s4, rk, n3, q4⟩ => ?_⟩
      have q5 := q4.later s4
      unfold out2 at q5
      cases eg : gJoin (.str a) dk with
      | none => rw [eg] at q5; exact False.elim q5
      | some p =>
        obtain ⟨m8, d8⟩ := p
        rw [eg] at q5
        unfold gJoin at eg
        split at eg
        · split at eg
          · rename_i _ _ _ ds e0 _ ys hy
            split at eg
            · rename_i hl
              cases eg
              cases e0
              obtain ⟨p, xs, rfl, hs, r⟩ := rk.view.lst s4.good
              rw [r.txts hy] at hs
              exact ⟨_, p, ys, rfl, rfl, .inl hs, hl, rD_scalar s4.good q5 (.str _)⟩
            · cases eg
          · cases eg
        · split at eg
          · rename_i _ _ _ ds e0 _ ys hy
            split at eg
            · rename_i hl
              cases eg
              cases e0
              obtain ⟨p, xs, rfl, hs, r⟩ := rk.view.tup s4.good
              rw [r.txts hy] at hs
              exact ⟨_, p, ys, rfl, rfl, .inr (.inl (.of hs)), hl, rD_scalar s4.good q5 (.str _)⟩
            · cases eg
          · cases eg
        · cases eg
    | _ => exact False.elim q2⟩
/-! ### text * n -/
def gTimes : D → D → Option (Md × D)
  | .str x, .int n => if 0 ≤ n ∧ n ≤ 1000 ∧ x.length ≤ 1000 then some (.dat, .str ⟨(List.replicate n.toNat x.cps.toList).flatten.toArray⟩) else none
  | x, y => gMul x y
theorem foldl_app (a : Array Nat) : ∀ (n : Nat) (acc : Array Nat), (List.replicate n a).foldl (· ++ ·) acc = acc ++ (List.replicate n a.toList).flatten.toArray
  | 0, acc => by simp
  | n + 1, acc => by rw [List.replicate_succ, List.foldl_cons, foldl_app a n, List.replicate_succ, List.flatten_cons]; apply Array.ext'; simp [List.append_assoc]
theorem gTimes_ok : OpR X (binaryOp .Mult) (rD X.K gTimes) := by
  intro pins s σ H x y v u Q I rx ry h
  obtain ⟨G, dx, dy, m, d, g, vx, vy, e, q⟩ := h
  unfold gTimes at e
  split at e
  · rename_i z n
    split at e
    · rename_i hc
      cases e
      cases vx.str; cases vy.int
      obtain ⟨t, rfl⟩ := rx
      obtain ⟨t', rfl⟩ := ry
      obtain ⟨h0, h1, h2⟩ := hc
      have key : ∀ y : Str, y = ⟨(List.replicate n.toNat z.cps.toList).flatten.toArray⟩ → ∀ tt s', Inv X pins σ H s' → EP X pins σ Q (.str y tt) s' := fun y e tt s' I' => ⟨.str y, H, I', ⟨tt, rfl⟩, by rw [e]; exact rD_scalar g q (.str _)⟩
      have nt : ∀ {k : Nat}, k ≤ 1000 * 1000 → PySem.Builtin.Str.tooLong k = false := fun {k} hk => by
        unfold PySem.Builtin.Str.tooLong
        have : (1000 * 1000 : Nat) ≤ sizeLine := by decide
        simp; omega
      refine PySem.P.mul_str ?_ (fun h3 h4 => ?_) (fun h3 h4 => ?_) ?_
      · have a : ¬ n < -(2 ^ 63 : Int) := by omega
        have b : ¬ n ≥ 2 ^ 63 := by omega
        rw [decide_eq_false a, decide_eq_false b]; rfl
      · have hn : (1 : Int) ≤ n := by omega
        have : (1000 : Int) ≤ (2 ^ 63 - 1) / n := Int.le_ediv_of_mul_le (by omega) (by omega)
        omega
      · have hp : z.length * n.toNat ≤ 1000 * 1000 := Nat.mul_le_mul h2 (by omega)
        exact nt hp
      · by_cases c : n < 1
        · rw [if_pos c]
          refine ⟨by decide, ?_⟩
          have : n = 0 := by omega
          subst this
          exact key _ (by rfl) _ _ (I.tok _)
        · rw [if_neg c]
          by_cases c2 : (n == 1 || z.length == 0) = true
          · rw [if_pos c2]
            refine key z ?_ _ _ I
            rw [Bool.or_eq_true_iff] at c2
            rcases c2 with c2 | c2
            · have : n = 1 := by simpa using c2
              subst this
              obtain ⟨zc⟩ := z
              simp
            · have : z.length = 0 := by simpa using c2
              obtain ⟨zc⟩ := z
              have : zc = #[] := by simpa [Str.length] using this
              subst this
              have : ∀ k, (List.replicate k ([] : List Nat)).flatten = [] := fun k => by induction k with
                | zero => rfl
                | succ k ih => rw [List.replicate_succ, List.flatten_cons, ih]; rfl
              simp [this]
          · rw [if_neg c2]
            refine ⟨?_, key _ ?_ _ _ (I.tok _)⟩
            · exact fits_reps (nt (Nat.mul_le_mul h2 (by omega)))
            · rw [foldl_app]; simp
    · cases e
  · exact gMul_ok pins s σ H x y v u Q I rx ry ⟨G, _, _, m, d, g, vx, vy, e, q⟩
/-! ### is of bools -/
def gIsB : D → D → Option (Md × D)
  | .bool a, .bool b => some (.dat, .bool (decide (a = b)))
  | _, _ => none
def gNotB : D → D → Option (Md × D)
  | .bool a, .bool b => some (.dat, .bool (!decide (a = b)))
  | _, _ => none
theorem gIsB_ok : OpR X (compareOp .Is) (rD X.K gIsB) := by
  intro pins s σ H x y v u Q I rx ry h
  obtain ⟨G, dx, dy, m, d, g, vx, vy, e, q⟩ := h
  unfold gIsB at e
  split at e
  · cases e
    cases vx.bl; cases vy.bl
    exact op_isBl pins s σ H _ _ v u Q I rx ry ⟨_, _, rfl, rfl, rD_scalar g q (.bl _)⟩
  · cases e
theorem gNotB_ok : OpR X (compareOp .IsNot) (rD X.K gNotB) := by
  intro pins s σ H x y v u Q I rx ry h
  obtain ⟨G, dx, dy, m, d, g, vx, vy, e, q⟩ := h
  unfold gNotB at e
  split at e
  · cases e
    cases vx.bl; cases vy.bl
    exact op_notBl pins s σ H _ _ v u Q I rx ry ⟨_, _, rfl, rfl, rD_scalar g q (.bl _)⟩
  · cases e
end
end Vb
/-! Vu: defs that may be called; facts of the built-ins. -/
namespace Vb
open PySem PySem.Spec PyProof.Rows L2
structure CalD (P : Program) (w : World) (K : PySem.W.Frag) (mg : Str → Option Value) (base : Heap) (ca : String → Addr) (k : Nat) (x : Str) (n : Nat) (F : List D → Out) : Prop where
  ex : ∃ (f : Addr) (fd : FuncData) (ps : List Str), FnV P w K mg base k f fd ps (spD K ca n F) ∧ mg x = some (.ref f) ∧ PySem.W.keepIn K (.ref f) = true ∧ Binds K fd ps []
section
variable {P : Program} {w : World} {K : PySem.W.Frag} {mg : Str → Option Value} {base : Heap} {ca : String → Addr} {j k n : Nat} {x : Str} {F : List D → Out}
theorem CalD.up (h : CalD P w K mg base ca j x n F) (l : j ≤ k) : CalD P w K mg base ca k x n F := by
  obtain ⟨f, fd, ps, V, r⟩ := h.ex
  exact ⟨f, fd, ps, V.mono l, r⟩
theorem CalD.c {X : Cx} (h : CalD X.prog X.w X.K X.mg X.base ca k x n F) : Callee X ca k x n F := ⟨h.ex⟩
theorem CalD.mk' {f : Addr} {fd : FuncData} {ps : List Str} (V : FnV P w K mg base k f fd ps (spD K ca n F)) (hm : mg x = some (.ref f)) (hk : PySem.W.keepIn K (.ref f) = true) (hb : Binds K fd ps []) : CalD P w K mg base ca k x n F := ⟨f, fd, ps, V, hm, hk, hb⟩
/-- a def that is not known to do anything -/
theorem fnv_stuck {f : Addr} {fd : FuncData} {ps : List Str} (hl : ps.length = n) : FnV P w K mg base k f fd ps (spD K ca n fun _ => .stuck) :=
  ⟨fun vs H Q E h => h.1.trans hl.symm, fun A outer s H args us vs Q E hr e0 b r h => by
    obtain ⟨_, G, ds, _, _, _, q⟩ := h
    exact False.elim q⟩
end
section
variable {X : Cx} {ca : String → Addr} {W : WX} {a b c : Expr} {fa fb fc : Ev} {pos : Pos}
theorem FinT.val {K : PySem.W.Frag} {σ : St} {G H : Hp} {Q : Bool → Hp → Prop} {o : Out} (q : FinT ca K W σ G H Q o) : Fin K ca W σ G H (fun v H1 => ∃ b, v = .bl b ∧ Q b H1) o := by
  cases o with
  | stuck => exact q
  | err x => exact q
  | ok m d =>
    cases d with
    | bool b => exact fun v G' H' s r n => ⟨b, r.view.bl, q G' H' s⟩
    | _ => exact False.elim q
theorem sndt_cmp {op : CmpOp} {g : D → D → Option (Md × D)} (ho : OpR X (compareOp op) (rD X.K g)) (ha : Snd X ca W a fa) (hb : Snd X ca W b fb) (hm : behindInMarks op b = false) : SndT X ca W (.Compare a [op] [b] pos) (eBin g fa fb) := fun Γ =>
  ptimp (pt_cmpR ho (ha Γ) (hb Γ) hm) fun σ H Q ⟨G, o, q⟩ => tE_bin ⟨G, o, q.val⟩
theorem sndt_chain {g g' : D → D → Option (Md × D)} {op op' : CmpOp} (ho : OpR X (compareOp op) (rD X.K g)) (ho' : OpR X (compareOp op') (rD X.K g')) (ha : Snd X ca W a fa) (hb : Snd X ca W b fb) (hc : Snd X ca W c fc)
    (hm : lastMarks [op, op'] [b, c] = false) : SndT X ca W (.Compare a [op, op'] [b, c] pos) (eChain g g' fa fb fc) := fun Γ =>
  ptimp (pt_chain ho ho' (ha Γ) (hb Γ) (hc Γ) hm) fun σ H Q ⟨G, o, q⟩ => tE_chain ⟨G, o, q.val⟩
end
theorem blkok_of {N : List Str} {sc scope : Scope} {own : List (Str × Nat)} (h : scope.kind = .function ∧ (∀ y ∈ scope.names, scope.names.lookup y.1 = some y.2) ∧ (∀ p ∈ own, N[p.2]? = some p.1) ∧
    (∀ y ∈ scope.names, y.2 = .free → sc.names.lookup y.1 = some .cell ∨ sc.names.lookup y.1 = some .free) ∧ (∀ y ∈ scope.names, y.2 = .local ∨ y.2 = .cell → y.1 ∈ own.map (·.1) ∨ y.1 ∉ N)) : BlkOk N sc scope own :=
  ⟨h.1, h.2.1, h.2.2.1, h.2.2.2.1, h.2.2.2.2⟩
theorem bt_len : bootBuiltins "len" = some (.builtin "len") := by decide +kernel
theorem bt_all : bootBuiltins "all" = some (.builtin "all") := by decide +kernel
theorem bt_isinstance : bootBuiltins "isinstance" = some (.builtin "isinstance") := by decide +kernel
theorem bt_sorted : bootBuiltins "sorted" = some (.builtin "sorted") := by decide +kernel
theorem bt_abs : bootBuiltins "abs" = some (.builtin "abs") := by decide +kernel
theorem bt_min : bootBuiltins "min" = some (.builtin "min") := by decide +kernel
theorem bt_repr : bootBuiltins "repr" = some (.builtin "repr") := by decide +kernel
theorem bt_dict : bootBuiltins "dict" = some (.type "dict") := by decide +kernel
theorem bt_list : bootBuiltins "list" = some (.type "list") := by decide +kernel
theorem bt_tuple : bootBuiltins "tuple" = some (.type "tuple") := by decide +kernel
theorem bt_int : bootBuiltins "int" = some (.type "int") := by decide +kernel
theorem bt_bool : bootBuiltins "bool" = some (.type "bool") := by decide +kernel
theorem bt_str : bootBuiltins "str" = some (.type "str") := by decide +kernel
theorem bt_set : bootBuiltins "set" = some (.type "set") := by decide +kernel
end Vb
/-! Za: displays of one pair whose key is None, or a tuple of one text: odd dicts. -/
namespace Vb
open PySem PySem.Spec PyProof.Rows L2
/-- a key of these two kinds -/
def oddKey : D → Bool
  | .none => true
  | .tuple [.str _] => true
  | _ => false
def eOdd (k v : Ev) : Ev := fun Γ => match k Γ with
  | .ok .dat dk => (match v Γ with
    | .ok .dat dv => if oddKey dk = true then .ok .dat (.dict [(dk, dv)]) else .stuck
    | .err x => .err x
    | _ => .stuck)
  | .err x => .err x
  | _ => .stuck
/-- {k: v} -/
def tOdd (tk tv : TE) : TE := fun σ H Q => ∀ p, H p = none → tPairs [(tk, tv)] σ (upd H p (.dK [])) fun ps H2 => H2 p = some (.dK []) ∧ ∃ k v, ps = [(k, v)] ∧ (k = .non ∨ ∃ a x, k = .ref a ∧ H2 a = some (.tup [.str x])) ∧
  ∀ od ku vu, RelV k ku → RelV v vu → Q (.ref p) (upd H2 p (.frz od (.ext (OddAt p ku vu))))
section
variable {X : Cx} {pos : Pos} {k v : Expr} {tk tv : TE}
theorem odd_stays {p : Addr} {ku vu : Value} {h1 h2 : Heap} (h : OddAt p ku vu h1) (k : ∀ o, h1.get? p = some o → h2.get? p = some o) : OddAt p ku vu h2 := by
  obtain ⟨sy, o, e, ep, a, b⟩ := h
  exact ⟨sy, o, e, ep, k _ a, b⟩
theorem odd_laid {pins : List (Addr × Obj)} {σ : St} {H2 : Hp} {s2 : Shared} {p : Addr} {ku vu : Value} {h' : Heap} {t' : Nat} {ob : HO} (I2 : Inv X pins σ H2 s2) (e : H2 p = some ob) (mu : Mut (some ob)) (hs : Heap.SameBut p s2.heap h') (φ : OddAt p ku vu h') :
    ∃ od, Inv X pins σ (upd H2 p (.frz od (.ext (OddAt p ku vu)))) { s2 with heap := h', toks := t' } := by
  obtain ⟨sy, o, en, ep, a, b⟩ := id φ
  have J : Inv X pins σ (upd H2 p (.ext (OddAt p ku vu))) { s2 with heap := h', toks := t' } := d_write I2 (by rw [e]; exact mu) hs ⟨o, a⟩ ⟨φ, ⟨o, a⟩, fun h1 h2 x k => odd_stays x k⟩
  obtain ⟨od, J2⟩ := J.lock (d := p) upd_same True.intro
  exact ⟨od, by rw [upd_upd] at J2; exact J2⟩
theorem mkind_nil {P : Program} {w : World} {h : Heap} {a : Addr} (d : h.DictOf (mixKind P w) a []) : h.DictOf (noneKind P w) a [] := by
  obtain ⟨o, es, ep, ho, hx, hdt, hk, hp, hn⟩ := d
  have hl : es.toList = [] := by cases q : es.toList with
    | nil => rfl
    | cons => rw [q] at hp; cases hp
  refine ⟨o, es, ep, ho, hx, hdt, fun e he => ?_, by rw [hl]; exact .nil, List.nodup_nil⟩
  have he' : e ∈ es.toList := by simpa using he
  rw [hl] at he'; cases he'
theorem mkind_nilH {P : Program} {w : World} {h : Heap} {a : Addr} (d : h.DictOf (mixKind P w) a []) : h.DictOfH (tupleKind (mixKind P w)) a [] := by
  obtain ⟨o, es, ep, ho, hx, hdt, hk, hp, hn⟩ := d
  have hl : es.toList = [] := by cases q : es.toList with
    | nil => rfl
    | cons => rw [q] at hp; cases hp
  exact ⟨o, es, ep, ho, hx, hdt, hl, (fun x hx => nomatch hx), List.nodup_nil⟩
theorem arr_one {α : Type} {es : Array α} {e : α} (h : es.toList = [e]) : es = #[e] := by
  obtain ⟨l⟩ := es
  cases h
  rfl
theorem odd_of_none {P : Program} {w : World} {h : Heap} {p : Addr} {vu : Value} (sy : (p == sysModules) = false) (d : h.DictOf (noneKind P w) p (merged [] [(none, vu)])) : OddAt p .none vu h := by
  obtain ⟨o, es, ep, ho, hx, hdt, hk, hp, hn⟩ := d
  have hm : merged [] [((none : Option Key), vu)] = [(none, vu)] := rfl
  rw [hm] at hp
  cases hl : es.toList with
  | nil => rw [hl] at hp; cases hp
  | cons e r =>
    rw [hl] at hp
    cases hp with
    | cons h1 h2 h3 =>
      cases h3
      have ee := arr_one hl
      subst ee
      exact ⟨sy, o, e, ep, ho, hx, hdt, nk_none h1, h2⟩
theorem odd_of_tup {P : Program} {w : World} {h : Heap} {p a : Addr} {ks : List Key} {vu : Value} (sy : (p == sysModules) = false) (d : h.DictOfH (tupleKind (mixKind P w)) p (storedAllH [] [(ks, a, vu)])) : OddAt p (.ref a) vu h := by
  obtain ⟨o, es, ep, ho, hx, hdt, hl, hk, hn⟩ := d
  have hm : storedAllH [] [(ks, a, vu)] = [(ks, a, vu)] := rfl
  rw [hm] at hl
  have ee := arr_one hl
  exact ⟨sy, o, _, ep, ho, hx, by rw [hdt, ee], rfl, rfl⟩
theorem pe_odd (hu : X.A.units + 66 < cLine) (hk : PE X k tk) (hv : PE X v tv) : PE X (.Dict [some k] [v] pos) (tOdd tk tv) := by
  refine ⟨fun pins s σ H Q I q => ?_⟩
  have hn := I.hok.fresh (Nat.le_refl s.heap.objs.size)
  have I1 := I.laid (a := s.heap.objs.size) (o := .dK []) (h' := s.heap.push { cls := .type "dict", data := .dict #[] }) (t' := s.toks) (fun _ _ q => Heap.get?_push_of_some _ q) (Nat.le_refl _) (dk_empty s.heap I.big)
  have run := (pps_cons (pos := pos) hk hv pps_nil).run pins _ σ _ _ I1 (q _ hn)
  -- which kind of key it is, is known only behind the pairs: both roads go through subDict
  rw [arm_eval_Dict]
  refine wpAny_bind (wpAny_standAt ?_)
  have hshape := zip_pairTrees [some k] [v] X.env pos rfl rfl
  rw [hshape, dictDisplay_pairs _ (by simp [pairTrees]) (by simp [pairTrees])]
  refine wpAny_bind ?_
  unfold subDict
  refine wpAny_bind (wpAny_alloc ?_)
  refine wpAny_bind (wpAny_holding ?_)
  rw [if_pos (by simp [pairTrees])]
  refine wpAny_bind (wpAny_mono run (fun ws s2 ⟨ps, H2, I2, rel, e, k', v', ep, hkey, q2⟩ => ?_) fun _ _ e => e)
  subst ep
  obtain ⟨sz, sy, vs0, r0, dd⟩ := dk_of I2.hok e
  cases r0
  cases rel with
  | @cons a b as bs hh t =>
    cases t
    obtain ⟨ku, vu⟩ := b
    obtain ⟨rk, rv⟩ := hh
    have rk : RelV k' ku := rk
    have rv : RelV v' vu := rv
    refine wpAny_holding ?_
    rcases hkey with rfl | ⟨a, x, rfl, ha⟩
    · obtain rfl : ku = Value.none := rk
      refine wpAny_bind (wpAny_storeAll (knd := noneKind X.prog X.w) [(.none, vu)] [(none, vu)] [] _ _ ⟨rfl, rfl, trivial⟩ (mkind_nil dd) (by rw [sizeLine_eq]; simp) fun h' dd' hs => wpAny_pure (wpAny_pure (wpAny_pure ?_)))
      obtain ⟨od, J⟩ := odd_laid (t' := s2.toks + 1) I2 e True.intro hs (odd_of_none sy dd')
      exact ⟨.ref s.heap.objs.size, _, J, rfl, q2 od _ vu rfl rv⟩
    · cases (show ku = Value.ref a from rk)
      have ck := key_of (ks := [.inr x]) I2.hok (show H2 a = some (.tup ([Sum.inr x].map kV)) from ha)
      refine wpAny_bind (wpAny_storeAllH (knd := tupleKind (mixKind X.prog X.w)) (by show X.A.units < cLine; omega) [(.ref a, vu)] [([.inr x], a, vu)] [] _ _ ⟨rfl, rfl, ck, trivial⟩ (mkind_nilH dd) (by rw [sizeLine_eq]; simp) fun h' tk dd' hs => wpAny_pure (wpAny_pure (wpAny_pure ?_)))
      obtain ⟨od, J⟩ := odd_laid (t' := tk) I2 e True.intro hs (odd_of_tup sy dd')
      exact ⟨.ref s.heap.objs.size, _, J, rfl, q2 od _ vu rfl rv⟩
end
section
variable {X : Cx} {ca : String → Addr} {W : WX} {pos : Pos} {k v : Expr} {fk fv : Ev}
theorem snd_odd (hu : X.A.units + 66 < cLine) (hk : Snd X ca W k fk) (hv : Snd X ca W v fv) : Snd X ca W (.Dict [some k] [v] pos) (eOdd fk fv) := fun Γ => by
  refine pimp (pe_odd hu (hk Γ) (hv Γ)) fun σ H Q ⟨G, o, q⟩ p np => ?_
  have gp := o.good.none_of np
  have sl : Stp G H G (upd H p (.dK [])) := Stp.lay o.good np
  unfold eOdd at q
  refine ⟨G, o.mono sl, ?_⟩
  revert q
  cases e1 : fk Γ with
  | stuck => exact fun q => q
  | err x => exact fun q c dx G' H' s' r => q c dx G' H' (sl.trans s') r
  | ok m dk =>
    cases m with
    | own => exact fun q => False.elim q
    | bor => exact fun q => False.elim q
    | dat =>
      dsimp only
      cases e2 : fv Γ with
      | stuck => exact fun q => False.elim q
      | err x => exact fun q kx G1 H1 s1 rk _ => ⟨G1, o.mono (sl.trans s1), by rw [e2]; exact fun c dx G' H' s' r => q c dx G' H' (sl.trans (s1.trans s')) r⟩
      | ok m dv =>
        cases m with
        | own => exact fun q => False.elim q
        | bor => exact fun q => False.elim q
        | dat =>
          dsimp only
          intro q kx G1 H1 s1 rk _
          refine ⟨G1, o.mono (sl.trans s1), ?_⟩
          rw [e2]
          intro vx G2 H2 s2 rv _
          have rk2 : Rep X.K G2 kx dk := Rep.mono s2.sub rk
          have s12 := s1.trans s2
          by_cases c : oddKey dk = true
          · rw [if_pos c] at q
            refine ⟨s12.keep _ _ upd_same, kx, vx, rfl, ?_, fun od ku vu r1 r2 => ?_⟩
            · cases dk with
              | none => cases rk2; exact .inl rfl
              | tuple l =>
                match l, c, rk2 with
                | [.str x], _, .tup h r =>
                  cases r with
                  | cons h1 h2 =>
                    cases h1; cases h2
                    exact .inr ⟨_, x, rfl, s2.good.tup h⟩
              | _ => cases c
            · have gp2 : G2 p = none := s12.noneG gp (by rw [upd_same]; simp)
              have sG : Sub G2 (upd G2 p (.ext (OddAt p ku vu))) := fun b w e => by
                have hb : b ≠ p := fun z => by rw [z, gp2] at e; cases e
                rw [upd_ne hb]; exact e
              have oz : oddD dk = true := by
                cases dk with
                | none => rfl
                | tuple l => rfl
                | _ => cases c
              refine q (.ref p) (upd G2 p (.ext (OddAt p ku vu))) _ ⟨fun b w e => ?_, s12.sub.trans sG, fun b e => ?_, fun b w e => ?_⟩ (.odd upd_same r1 r2 (rk2.mono sG) (Rep.mono sG rv) oz) trivial
              · have hb : b ≠ p := fun z => by rw [z, np] at e; cases e
                rw [upd_ne hb]; exact s12.keep b w (by rw [upd_ne hb]; exact e)
              · by_cases hb : b = p
                · subst hb; exact .inr np
                · rw [upd_ne hb] at e
                  rcases s12.new b e with z | z
                  · exact .inl z
                  · rw [upd_ne hb] at z; exact .inr z
              · by_cases hb : b = p
                · subst hb
                  rw [upd_same] at e
                  cases e
                  exact ⟨od, upd_same⟩
                · rw [upd_ne hb] at e
                  exact (s2.good b w e).keep fun v q => by rw [upd_ne hb]; exact q
          · rw [if_neg c] at q; exact False.elim q
end
end Vb
/-! Zb: repr of any data. -/
namespace Vb
open PySem PySem.Spec PyProof.Rows L2
def reprOk (d : D) : Bool := d.showable && (decide (d.depth ≤ 60) && decide (d.shown.length ≤ sizeLine))
def gRepr : List D → Option (Md × D)
  | [d] => if reprOk d = true then some (.dat, .str d.shown) else none
  | _ => none
section
variable (P : Program) (w : World) (h : Heap)
/-- u is read as d, and told as it -/
structure RD (u : Value) (d : D) : Prop where
  rd : ∃ as, Reads h u d as
  rp : ∃ bs, ReadAtMost h d.depth bs ∧ ReprK P w bs h d.depth u d.shown
  top : ∀ (A : Around) (E : Value → Shared → Prop) (s : Shared) (Q : Value → Shared → Prop), A.guards = some [] → A.units + (d.depth + 1) < cLine → (∀ b o, h.get? b = some o → s.heap.get? b = some o) →
    (∀ h' u' tk, (∀ b o, s.heap.get? b = some o → h'.get? b = some o) → Q (.str d.shown u') { s with heap := h', toks := tk }) → wpAny (model P w) A (call (.builtin "repr") [u]) Q E s
structure RDs (us : List Value) (ds : List D) : Prop where
  rd : ∃ as, ReadsAll h us ds as
  rp : ∃ bs, ReadAtMost h (PyData.depthAll ds) bs ∧ ReprAllK P w bs h (PyData.depthAll ds) us (PyData.shownAll ds)
end
section
variable {P : Program} {w : World} {h : Heap}
theorem RDs.nil : RDs P w h [] [] := ⟨⟨[], .nil⟩, [], (fun _ h => nomatch h), by simp only [PyData.shownAll]; exact .nil⟩
theorem RDs.cons {u : Value} {d : D} {us : List Value} {ds : List D} (a : RD P w h u d) (b : RDs P w h us ds) : RDs P w h (u :: us) (d :: ds) := by
  obtain ⟨as, r1⟩ := a.rd
  obtain ⟨bs, r2⟩ := b.rd
  obtain ⟨b1, hb1, k1⟩ := a.rp
  obtain ⟨b2, hb2, k2⟩ := b.rp
  refine ⟨⟨_, .cons r1 r2⟩, b1 ++ b2, ?_, ?_⟩
  · intro b hm
    simp only [PyData.depthAll]
    rcases List.mem_append.mp hm with hm | hm
    · obtain ⟨d', as', r', hd'⟩ := hb1 b hm
      exact ⟨d', as', r', Nat.le_trans hd' (Nat.le_max_left _ _)⟩
    · obtain ⟨d', as', r', hd'⟩ := hb2 b hm
      exact ⟨d', as', r', Nat.le_trans hd' (Nat.le_max_right _ _)⟩
  · simp only [PyData.depthAll, PyData.shownAll]
    exact .cons ((k1.more fun b hb => List.mem_append_left _ hb).level_le (Nat.le_max_left _ _)) (k2.more_le (fun b hb => List.mem_append_right _ hb) (Nat.le_max_right _ _))
theorem RD.none : RD P w h .none .none := ⟨⟨_, .none⟩, ⟨[], (fun _ h => nomatch h), by simp only [PyData.shown]; exact .of_is ReprIs.none _ _ _⟩, fun A E s Q _ _ _ q => _root_.PySem.P.repr_of_none (by simp only [PyData.shown] at q; exact q s.heap _ _ fun _ _ e => e)⟩
theorem RD.bool (b : Bool) : RD P w h (.bool b) (.bool b) := ⟨⟨_, .bool b⟩, ⟨[], (fun _ h => nomatch h), by simp only [PyData.shown]; exact .of_is (ReprIs.bool b) _ _ _⟩, fun A E s Q _ _ _ q => _root_.PySem.P.repr_of_bool (by simp only [PyData.shown] at q; exact q s.heap _ _ fun _ _ e => e)⟩
theorem RD.int (i : Int) (t : Tok) (hs : (PyData.int i).showable = true) : RD P w h (.int i t) (.int i) := by
  have hs' : i.natAbs.log2 < 1920 := by simpa [PyData.showable] using hs
  exact ⟨⟨_, .int i t⟩, ⟨[], (fun _ h => nomatch h), by simp only [PyData.shown]; exact .of_is (ReprIs.int t hs') _ _ _⟩, fun A E s Q _ _ _ q => _root_.PySem.P.repr_of_int hs' (by simp only [PyData.shown] at q; exact q s.heap _ _ fun _ _ e => e)⟩
theorem RD.str (x : Str) (t : Tok) (hz : (PyData.str x).shown.length ≤ sizeLine) : RD P w h (.str x t) (.str x) := by
  have hz' : (reprText x).length ≤ sizeLine := by simpa only [PyData.shown] using hz
  exact ⟨⟨_, .str x t⟩, ⟨[], (fun _ h => nomatch h), by simp only [PyData.shown]; exact .of_is (ReprIs.str x t hz') _ _ _⟩, fun A E s Q _ _ _ q => _root_.PySem.P.repr_of_str (by simp only [PyData.shown] at q; exact q s.heap _ _ fun _ _ e => e) hz'⟩
theorem RD.list {a : Addr} {o : Obj} {its : List Value} {n : Nat} {ds : List D} (h1 : h.get? a = some o) (h2 : o.cls = .type "list") (h3 : o.data = .seq its.toArray n) (r : RDs P w h its ds) (hz : (PyData.list ds).shown.length ≤ sizeLine) : RD P w h (.ref a) (.list ds) := by
  have hz' : (listText (PyData.shownAll ds)).length ≤ sizeLine := by simpa only [PyData.shown] using hz
  obtain ⟨as, h4⟩ := r.rd
  obtain ⟨bs, hb, hk⟩ := r.rp
  have rd : Reads h (.ref a) (.list ds) _ := .list h1 h2 h3 (by simpa using h4)
  have hna : a ∉ bs := not_mem_of_deeper rd (by simp only [PyData.depth]; omega) hb
  have hT : ∀ s : Shared, (∀ b o, h.get? b = some o → s.heap.get? b = some o) → s.TypeIs (.ref a) "list" := fun s k => ⟨o, k _ _ h1, h2⟩
  cases its with
  | nil =>
    cases h4
    refine ⟨⟨_, rd⟩, ⟨a :: bs, ReadAtMost.cons rd (by simp only [PyData.depth]; omega) hb, ?_⟩, fun A E s Q hg hu k q => ?_⟩
    · simp only [PyData.depth, PyData.shown, PyData.shownAll, listText_nil]
      exact ReprK.listEmpty h1 h2 h3
    · simp only [PyData.shown, PyData.shownAll, listText_nil] at q
      simp only [PyData.depth] at hu
      exact call_repr_slot (by omega) (hT s k) F.slot_list_repr.toG (call_list_repr_empty (hT s k) (k _ _ h1) h3 ⟨_, _, rfl, q s.heap _ _ fun _ _ e => e⟩)
  | cons x l =>
    refine ⟨⟨_, rd⟩, ⟨a :: bs, ReadAtMost.cons rd (by simp only [PyData.depth]; omega) hb, ?_⟩, fun A E s Q hg hu k q => ?_⟩
    · simp only [PyData.depth, PyData.shown]
      exact ReprK.list h1 h2 h3 hna (by simpa using hk.length_eq) (fun i y e => hk.item i y (by simpa using e))
    · simp only [PyData.shown] at q
      simp only [PyData.depth] at hu
      exact call_repr_slot (by omega) (hT s k) F.slot_list_repr.toG (call_list_reprK h1 h2 h3 hna (by simpa using hk.length_eq) (fun i y e => hk.item i y (by simpa using e)) (A := A.in1) (g := []) hg (fun b _ => Clear.nil b) (by show A.units + 1 + _ < cLine; omega) k (fun h' u tk hk => ⟨_, _, rfl, q h' u tk hk⟩) hz')
theorem RD.tuple {a : Addr} {o : Obj} {its : List Value} {n : Nat} {ds : List D} (h1 : h.get? a = some o) (h2 : o.cls = .type "tuple") (h3 : o.data = .seq its.toArray n) (r : RDs P w h its ds) (hz : (PyData.tuple ds).shown.length ≤ sizeLine) : RD P w h (.ref a) (.tuple ds) := by
  have hz' : (tupleText (PyData.shownAll ds)).length ≤ sizeLine := by simpa only [PyData.shown] using hz
  obtain ⟨as, h4⟩ := r.rd
  obtain ⟨bs, hb, hk⟩ := r.rp
  have rd : Reads h (.ref a) (.tuple ds) _ := .tuple h1 h2 h3 (by simpa using h4)
  have hna : a ∉ bs := not_mem_of_deeper rd (by simp only [PyData.depth]; omega) hb
  have hT : ∀ s : Shared, (∀ b o, h.get? b = some o → s.heap.get? b = some o) → s.TypeIs (.ref a) "tuple" := fun s k => ⟨o, k _ _ h1, h2⟩
  refine ⟨⟨_, rd⟩, ⟨a :: bs, ReadAtMost.cons rd (by simp only [PyData.depth]; omega) hb, ?_⟩, fun A E s Q hg hu k q => ?_⟩
  · simp only [PyData.depth, PyData.shown]
    exact ReprK.tuple h1 h2 h3 hna (by simpa using hk)
  · simp only [PyData.shown] at q
    simp only [PyData.depth] at hu
    exact call_repr_slot (by omega) (hT s k) F.slot_tuple_repr (call_tuple_reprK h1 h2 h3 hna (by simpa using hk) (A := A.in1) (g := []) hg (fun b _ => Clear.nil b) (by show A.units + 1 + _ < cLine; omega) k (fun h' u tk hk => ⟨_, _, rfl, q h' u tk hk⟩) hz')
theorem RD.dict {a : Addr} {o : Obj} {es : Array DictEntry} {n : Nat} {kvs : List (D × D)} (h1 : h.get? a = some o) (h2 : o.cls = .type "dict") (h3 : o.data = .dict es n) (hsys : (a == sysModules) = false)
    (rk : RDs P w h (es.toList.map (·.key)) (kvs.map (·.1))) (rv : RDs P w h (es.toList.map (·.val)) (kvs.map (·.2))) (hz : (PyData.dict kvs).shown.length ≤ sizeLine) : RD P w h (.ref a) (.dict kvs) := by
  have hz' : (dictText (PyData.shownKv kvs)).length ≤ sizeLine := by simpa only [PyData.shown] using hz
  obtain ⟨as, h4⟩ := rk.rd
  obtain ⟨as2, h5⟩ := rv.rd
  obtain ⟨b1, hb1, k1⟩ := rk.rp
  obtain ⟨b2, hb2, k2⟩ := rv.rp
  have rd : Reads h (.ref a) (.dict kvs) _ := .dict h1 h2 h3 h4 h5
  have hb : ReadAtMost h (PyData.depthKv kvs) (b1 ++ b2) := (hb1.mono (PyData.depthAll_keys_le kvs)).append (hb2.mono (PyData.depthAll_vals_le kvs))
  have hna : a ∉ b1 ++ b2 := not_mem_of_deeper rd (by simp only [PyData.depth]; omega) hb
  have hT : ∀ s : Shared, (∀ b o, h.get? b = some o → s.heap.get? b = some o) → s.TypeIs (.ref a) "dict" := fun s k => ⟨o, k _ _ h1, h2⟩
  have kk := (ReprEntriesK.of_two es.toList _ _ (k1.more_le (fun b hb => List.mem_append_left _ hb) (PyData.depthAll_keys_le kvs)) (k2.more_le (fun b hb => List.mem_append_right _ hb) (PyData.depthAll_vals_le kvs)))
  refine ⟨⟨_, rd⟩, ⟨a :: (b1 ++ b2), ReadAtMost.cons rd (by simp only [PyData.depth]; omega) hb, ?_⟩, fun A E s Q hg hu k q => ?_⟩
  · simp only [PyData.depth, PyData.shown, PyData.shownKv_eq]
    exact ReprK.dict h1 h2 h3 hsys hna kk
  · simp only [PyData.shown, PyData.shownKv_eq] at q
    simp only [PyData.depth] at hu
    exact call_repr_slot (by omega) (hT s k) F.slot_dict_repr (call_dict_reprK h1 h2 h3 hsys hna kk (A := A.in1) (g := []) hg (fun b _ => Clear.nil b) (by show A.units + 1 + _ < cLine; omega) k (fun h' u tk hk => ⟨_, _, rfl, q h' u tk hk⟩) (by rw [← PyData.shownKv_eq]; exact hz'))
theorem kv_entries {kvs : List (Key × V)} {vs : List (Key × Value)} {es : List DictEntry} (r : KV kvs vs) (p : Pairs (mixKind P w) es vs) : Vals (kvs.map fun p => kV p.1) (es.map (·.key)) ∧ Vals (kvs.map (·.2)) (es.map (·.val)) := by
  unfold KV at r
  induction r generalizing es with
  | nil => cases p; exact ⟨.nil, .nil⟩
  | @cons a b as bs h t ih =>
    cases p with
    | cons h1 h2 h3 =>
      obtain ⟨i1, i2⟩ := ih h3
      refine ⟨.cons ?_ i1, .cons (by dsimp only; rw [h2]; exact h.2) i2⟩
      have h1' : keyIs b.1 _ = true := h1
      rw [← h.1] at h1'
      rcases keyIs_shape h1' with ⟨i, t, e1, e2⟩ | ⟨x, t, e1, e2⟩
      · dsimp only; rw [e1, e2]; exact ⟨t, rfl⟩
      · dsimp only; rw [e1, e2]; exact ⟨t, rfl⟩
end
section
variable {X : Cx} {pins : List (Addr × Obj)} {σ : St} {H G : Hp} {s : Shared}
theorem shownAll_le_list {ds : List D} (hz : (PyData.list ds).shown.length ≤ sizeLine) : ∀ t ∈ PyData.shownAll ds, t.length ≤ sizeLine := fun t ht => Nat.le_trans (listText_mem_le ht) (by simpa only [PyData.shown] using hz)
theorem shownAll_le_tuple {ds : List D} (hz : (PyData.tuple ds).shown.length ≤ sizeLine) : ∀ t ∈ PyData.shownAll ds, t.length ≤ sizeLine := fun t ht => Nat.le_trans (tupleText_mem_le ht) (by simpa only [PyData.shown] using hz)
theorem shownAll_le_keys {kvs : List (D × D)} (hz : (PyData.dict kvs).shown.length ≤ sizeLine) : ∀ t ∈ PyData.shownAll (kvs.map (·.1)), t.length ≤ sizeLine := fun t ht => by
  obtain ⟨p, hp, hl⟩ := PyData.shownKv_key_le kvs t ht
  exact Nat.le_trans hl (Nat.le_trans (dictText_mem_le hp) (by simpa only [PyData.shown] using hz))
theorem shownAll_le_vals {kvs : List (D × D)} (hz : (PyData.dict kvs).shown.length ≤ sizeLine) : ∀ t ∈ PyData.shownAll (kvs.map (·.2)), t.length ≤ sizeLine := fun t ht => by
  obtain ⟨p, hp, hl⟩ := PyData.shownKv_val_le kvs t ht
  exact Nat.le_trans hl (Nat.le_trans (dictText_mem_le hp) (by simpa only [PyData.shown] using hz))
theorem rd_lst {a : Addr} {xs : List V} {ds : List D} (I : Inv X pins σ H s) (h : SqL X.K H a xs) (r : ∀ us, Vals xs us → RDs X.prog X.w s.heap us ds) (hz : (PyData.list ds).shown.length ≤ sizeLine) : RD X.prog X.w s.heap (.ref a) (.list ds) := by
  obtain ⟨its, rv, ⟨o, n, ho, hc, _, hd⟩, _⟩ := I.list h
  exact .list ho hc (by simpa using hd) (r its rv) hz
theorem rd_dk {a : Addr} {kvs : List (Key × V)} {ds : List (D × D)} (I : Inv X pins σ H s) (h : Rd H a (.dK kvs)) (rk : ∀ us, Vals (kvs.map fun p => kV p.1) us → RDs X.prog X.w s.heap us (ds.map (·.1))) (rv : ∀ us, Vals (kvs.map (·.2)) us → RDs X.prog X.w s.heap us (ds.map (·.2)))
    (hz : (PyData.dict ds).shown.length ≤ sizeLine) : RD X.prog X.w s.heap (.ref a) (.dict ds) := by
  obtain ⟨_, sy, vs, r, o, es, ep, ho, hx, hd, hk, hp, hn⟩ := dk_rd I.hok h
  obtain ⟨v1, v2⟩ := kv_entries r hp
  exact .dict ho hx.1 hd sy (rk _ v1) (rv _ v2) hz
theorem rds_ints : ∀ {ns : List Int} {us : List Value}, Vals (ns.map V.int) us → PyData.showableAll (ns.map PyData.int) = true → RDs X.prog X.w s.heap us (ns.map .int)
  | [], _, r, _ => by cases r; exact .nil
  | n :: ns, _, r, hs => by
    cases r with
    | cons h t =>
      obtain ⟨t', rfl⟩ := h
      have hs' : (PyData.int n).showable = true ∧ PyData.showableAll (ns.map PyData.int) = true := by simpa [PyData.showableAll] using hs
      exact .cons (.int n t' hs'.1) (rds_ints t hs'.2)
mutual
theorem Rep.rd (I : Inv X pins σ H s) (g : Good G H) : ∀ {v : V} {d : D}, Rep X.K G v d → ∀ {u : Value}, RelV v u → d.showable = true → d.shown.length ≤ sizeLine → RD X.prog X.w s.heap u d
  | _, _, .non, _, r, _, _ => by cases (show _ = Value.none from r); exact .none
  | _, _, .bl b, _, r, _, _ => by cases (show _ = Value.bool b from r); exact .bool b
  | _, _, .int i, _, r, hs, _ => by obtain ⟨t, rfl⟩ := r; exact .int i t hs
  | _, _, .str x, _, r, _, hz => by obtain ⟨t, rfl⟩ := r; exact .str x t hz
  | _, _, .lst h rr, _, r, hs, hz => by
    cases (show _ = Value.ref _ from r)
    exact rd_lst I (.inl (g.rdl h)) (fun us q => Reps.rd I g rr q (by simpa [PyData.showable] using hs) (shownAll_le_list hz)) hz
  | _, _, .tup h rr, _, r, hs, hz => by
    cases (show _ = Value.ref _ from r)
    obtain ⟨_, its, rv, o, h1, h2, n, h3⟩ := (show ObjOk X.prog X.w H s.heap _ (.tup _) from I.hok _ _ (g.tup h))
    exact .tuple h1 h2 h3 (Reps.rd I g rr rv (by simpa [PyData.showable] using hs) (shownAll_le_tuple hz)) hz
  | _, _, .dic h rr, _, r, hs, hz => by
    cases (show _ = Value.ref _ from r)
    obtain ⟨s1, s2⟩ := PyData.showableKv_split _ (show PyData.showableKv _ = true by simpa [PyData.showable] using hs)
    exact rd_dk I (g.rdk h) (fun us q => KReps.rdk I g rr q s1 (shownAll_le_keys hz)) (fun us q => KReps.rdv I g rr q s2 (shownAll_le_vals hz)) hz
  | _, _, .stat h, _, r, hs, hz => by
    cases (show _ = Value.ref _ from r)
    refine rd_lst I (a := _) ?_ (fun us q => rds_ints q (by simpa [PyData.showable] using hs)) hz
    rcases h with h | h
    · rcases h with h | ⟨o, h⟩ <;> cases h
    · exact .inr h
  | _, _, @Rep.odd _ _ a k v ku vu kd vd h r1 r2 x y z, _, r, hs, hz => by
    cases (show _ = Value.ref _ from r)
    obtain ⟨od, hf⟩ := g _ _ h
    obtain ⟨sy, ho, hx, e, ep, hd, e1, e2⟩ := odd_at I hf
    have hs' : kd.showable = true ∧ vd.showable = true := by simpa [PyData.showable, PyData.showableKv] using hs
    have z1 := shownAll_le_keys hz
    have z2 := shownAll_le_vals hz
    refine RD.dict ho hx.1 hd sy ?_ ?_ hz
    · rw [show (#[e] : Array DictEntry).toList.map (·.key) = [e.key] from rfl, e1]
      exact .cons (Rep.rd I g x r1 hs'.1 (z1 _ (by simp [PyData.shownAll]))) .nil
    · rw [show (#[e] : Array DictEntry).toList.map (·.val) = [e.val] from rfl, e2]
      exact .cons (Rep.rd I g y r2 hs'.2 (z2 _ (by simp [PyData.shownAll]))) .nil
theorem Reps.rd (I : Inv X pins σ H s) (g : Good G H) : ∀ {vs : List V} {ds : List D}, Reps X.K G vs ds → ∀ {us : List Value}, Vals vs us → PyData.showableAll ds = true → (∀ t ∈ PyData.shownAll ds, t.length ≤ sizeLine) → RDs X.prog X.w s.heap us ds
  | _, _, .nil, _, r, _, _ => by cases r; exact .nil
  | _, _, @Reps.cons _ _ v d vs ds h rr, _, r, hs, hz => by
    cases r with
    | cons r1 r2 =>
      have hs' : d.showable = true ∧ PyData.showableAll ds = true := by simpa [PyData.showableAll] using hs
      exact .cons (Rep.rd I g h r1 hs'.1 (hz _ (by simp [PyData.shownAll]))) (Reps.rd I g rr r2 hs'.2 fun t ht => hz t (by simp [PyData.shownAll, ht]))
theorem KReps.rdk (I : Inv X pins σ H s) (g : Good G H) : ∀ {kvs : List (Key × V)} {ds : List (D × D)}, KReps X.K G kvs ds → ∀ {us : List Value}, Vals (kvs.map fun p => kV p.1) us → PyData.showableAll (ds.map (·.1)) = true → (∀ t ∈ PyData.shownAll (ds.map (·.1)), t.length ≤ sizeLine) → RDs X.prog X.w s.heap us (ds.map (·.1))
  | _, _, .nil, _, r, _, _ => by cases r; exact .nil
  | _, _, @KReps.cons _ _ k v d vs ds h rr, _, r, hs, hz => by
    cases r with
    | cons r1 r2 =>
      have hs' : (kD k).showable = true ∧ PyData.showableAll (ds.map (·.1)) = true := by simpa [PyData.showableAll] using hs
      have tail := KReps.rdk I g rr r2 hs'.2 fun t ht => hz t (by simp [PyData.shownAll, ht])
      cases k with
      | inl i => obtain ⟨t, rfl⟩ := r1; exact .cons (.int i t hs'.1) tail
      | inr x => obtain ⟨t, rfl⟩ := r1; exact .cons (.str x t (hz _ (by simp [PyData.shownAll, kD]))) tail
theorem KReps.rdv (I : Inv X pins σ H s) (g : Good G H) : ∀ {kvs : List (Key × V)} {ds : List (D × D)}, KReps X.K G kvs ds → ∀ {us : List Value}, Vals (kvs.map (·.2)) us → PyData.showableAll (ds.map (·.2)) = true → (∀ t ∈ PyData.shownAll (ds.map (·.2)), t.length ≤ sizeLine) → RDs X.prog X.w s.heap us (ds.map (·.2))
  | _, _, .nil, _, r, _, _ => by cases r; exact .nil
  | _, _, @KReps.cons _ _ k v d vs ds h rr, _, r, hs, hz => by
    cases r with
    | cons r1 r2 =>
      have hs' : d.showable = true ∧ PyData.showableAll (ds.map (·.2)) = true := by simpa [PyData.showableAll] using hs
      exact .cons (Rep.rd I g h r1 hs'.1 (hz _ (by simp [PyData.shownAll]))) (KReps.rdv I g rr r2 hs'.2 fun t ht => hz t (by simp [PyData.shownAll, ht]))
end
theorem View.rd (I : Inv X pins σ H s) (g : Good G H) {v : V} {d : D} {u : Value} (h : View X.K G H v d) (r : RelV v u) (hs : d.showable = true) (hz : d.shown.length ≤ sizeLine) : RD X.prog X.w s.heap u d := by
  rcases h with h | ⟨a, o, rfl, h, q⟩
  · exact h.rd I g r hs hz
  · cases (show u = Value.ref a from r)
    cases q with
    | lst rr => exact rd_lst I (.inl (.of h)) (fun us q => rr.rd I g q (by simpa [PyData.showable] using hs) (shownAll_le_list hz)) hz
    | dic rr =>
      obtain ⟨s1, s2⟩ := PyData.showableKv_split _ (show PyData.showableKv _ = true by simpa [PyData.showable] using hs)
      exact rd_dk I (.of h) (fun us q => rr.rdk I g q s1 (shownAll_le_keys hz)) (fun us q => rr.rdv I g q s2 (shownAll_le_vals hz)) hz
end
theorem gRepr_ok {X : Cx} (hu : X.A.units + 66 < cLine) (hgd : X.A.guards = some []) : CallR X (.builtin "repr") (rC X.K gRepr) := by
  intro pins s σ H xs us Q I r h
  obtain ⟨G, ds, m, d, g, vw, e, q⟩ := h
  unfold gRepr at e
  split at e
  · split at e
    · rename_i dd hc
      cases e
      unfold reprOk at hc
      simp only [Bool.and_eq_true, decide_eq_true_eq] at hc
      obtain ⟨hs, hd, hz⟩ := hc
      obtain ⟨v, rfl, vv⟩ := vw.one
      obtain ⟨u, rfl, ru⟩ := vals1 r
      exact (vv.rd I g ru hs hz).top X.A _ s _ hgd (by omega) (fun _ _ e => e) fun h' u' tk hk => ⟨.str _, H, I.kept hk, ⟨_, rfl⟩, rD_scalar g q (.str _)⟩
    · cases e
  · cases e
end Vb
/-! Zh: the head's hook. -/
namespace Vb
open PySem PySem.Spec PyProof.Rows L2
/-! ### the head's facts, and one more question -/
def asX (n : Nat) (g : Addr → Option Obj) : List Addr := PySem.cStatics :: He.asD g n
def hookX (n : Nat) (fa : List He.Fa) (fn : List He.DefD) (ex : PySem.W.Frag → Bool) : PySem.W.Hook where
  α := Bool × He.AlD
  obs := fun s => (ex (He.frG s.heap.get? (asX n s.heap.get?)), He.obsD fa fn (He.frG s.heap.get? (asX n s.heap.get?)))
  val := fun _ => (true, He.valD fn)
  says := fun _ h => ∃ K : PySem.W.Frag, K.In h ∧ He.SaysD fa fn K ∧ ex K = true
  of := fun _ s e => ⟨He.frG s.heap.get? (asX n s.heap.get?), He.frG_in, congrArg (fun z : Bool × He.AlD => z.2) e, congrArg (fun z : Bool × He.AlD => z.1) e⟩
  keeps := fun _ _ _ ⟨K, hK, c⟩ k => ⟨K, PySem.W.Frag.In.keeps hK k, c⟩
def obX (n : Nat) (fa : List He.Fa) (fn : List He.DefD) (ex : PySem.W.Frag → Bool) (g : Addr → Option Obj) : Bool × He.AlD :=
  let K := He.frG g (asX n g)
  (ex K, He.obsD fa fn K)
theorem obX_eq {n : Nat} {fa : List He.Fa} {fn : List He.DefD} {ex : PySem.W.Frag → Bool} {g : Addr → Option Obj} {s : Shared} (h : ∀ a, g a = s.heap.get? a) : obX n fa fn ex g = (hookX n fa fn ex).obs s := by
  have e : g = s.heap.get? := funext h
  rw [e] <;> rfl
end Vb
/-! Vend: a law's end over a def's promise that asks for no guards. -/
namespace Vb
open PySem PySem.Spec PyProof.Rows L2
/-- the script's object alone is tracked: locked, or the module's own -/
def only (a : Addr) (o : Obj) (ns : List Int) : Hp := fun b => if b = a then some (.frz o (.lst (ns.map V.int))) else none
theorem only_at {a : Addr} {o : Obj} {ns : List Int} : only a o ns a = some (.frz o (.lst (ns.map V.int))) := if_pos rfl
theorem only_off {a b : Addr} {o : Obj} {ns : List Int} (h : b ≠ a) : only a o ns b = none := if_neg h
section
variable {P : Program} {w : World} {K : PySem.W.Frag} {mg mb : Str → Option Value} {k : Nat} {fa a : Addr} {fd : FuncData} {x : Str} {s₁ : Shared} {vs : List Value} {ns : List Int} {ca : String → Addr} {F : List D → Out}
/-- from one abstract heap -/
theorem core_call {H : Hp} (KX : K.In s₁.heap) (hns : s₁.heap.Ns mainGlobals mg) (hb : s₁.heap.Ns builtinsNs mb) (hbb : ∀ x : Str, x ≠ "__name__" → mb x = bootBuiltins x) (hlim : s₁.heap.NoLimit) (hg : s₁.gens = #[]) (hr : Room k callerA)
    (pr : ∀ base : Heap, K.In base → base.Ns mainGlobals mg → FnV P w K mg base k fa fd [x] (spD K ca 1 F)) (hbind : ∀ (s : Shared) (u : Value), BindsTo s fd ⟨[u], []⟩ [(x, u)])
    (hok : HOk P w H s₁.heap) (base_of : ∀ {b : Addr} {o : Obj}, s₁.heap.get? b = some o → H b = none → (hidT s₁.heap H).get? b = some o) (noD : ∀ {b : Addr} {o : Obj} {es : Array DictEntry} {ep : Nat}, s₁.heap.get? b = some o → o.data = .dict es ep → H b = none)
    (noK : ∀ {b : Addr} {o : Obj}, K.lookup b = some o → H b = none) (hH : ∀ b, H b = none ∨ ∃ o xs, H b = some (.frz o (.lst xs)))
    {G : Hp} {d : D} (g : Good G H) (rd : Rep K G (.ref a) d) (hF : F [d] = .ok .dat (.bool true)) :
    codeAny (model P w) callerA (.call (.ref fa) ⟨[.ref a], []⟩) (fun r s' => r = .ok (.ret (.bool true)) ∧ OldK s₁.heap s'.heap ∧ s'.os = s₁.os ∧ AllBare s'.gens) s₁ := by
  have nsK : ∀ {b : Addr} {m : Str → Option Value}, s₁.heap.Ns b m → (hidT s₁.heap H).Ns b m := fun {b m} ⟨o, es, ep, e, d, r⟩ => ⟨o, es, ep, base_of e (noD e d), d, r⟩
  have hK : K.In (hidT s₁.heap H) := fun b o e => base_of (KX b o e) (noK e)
  have hM : Mod K mg (hidT s₁.heap H) := ⟨hK, nsK hns, ⟨mb, nsK hb, hbb⟩, let ⟨mc, h1, h2⟩ := hlim; ⟨mc, nsK h1, h2⟩⟩
  have e0 : Env0 P w K mg (hidT s₁.heap H) callerA [] s₁ H := ⟨rfl, hM, fun b o e => of_hidT e, Nat.le_of_eq (hidT_size _ _), trivial, fun b hb => absurd (show b ∈ ([] : List Addr) from hb) (by simp), hok, .of_eq hg⟩
  have sp : spD K ca 1 F [.ref a] H (fun v _ => v = .bl true) fun _ _ _ => False := by
    refine ⟨rfl, G, [d], g, .cons rd .nil, fun e => by rw [hF]; simp, ?_⟩
    rw [hF]
    exact fun v G' H' s r n => r.view.bl
  refine codeAny_mono ((pr _ hK (nsK hns)).run callerA [] s₁ H ⟨[.ref a], []⟩ [.ref a] [.ref a] _ _ ⟨hr, rfl⟩ e0 (hbind s₁ (.ref a)) (.cons rfl .nil) sp) fun r s' h => ?_
  match r, h with
  | .error e, h => 
    have h2 : L2.CX P w [] H s₁ (fun _ _ _ => False) e s' := h
    exact absurd h2 (by
      intro z
      obtain ⟨_, _, _, _, _, _, _, _, _, _, _, _, q⟩ := z
      exact q)
  | .ok .next, h => exact False.elim h
  | .ok .brk, h => exact False.elim h
  | .ok .cont, h => exact False.elim h
  | .ok (.ret u), h =>
    obtain ⟨v, H', os, bare, un, hok', r', q⟩ := h
    have q' : v = .bl true := q
    subst q'
    obtain rfl : u = Value.bool true := r'
    refine ⟨rfl, OldK.of_keep fun b o e => ?_, os, bare⟩
    rcases hH b with z | ⟨ob, xs, z⟩
    · exact un.keep b o e z (fun m => absurd (show b ∈ ([] : List Addr) from m) (by simp)) (by simp)
    · obtain ⟨e1, _⟩ := hok b _ z
      obtain ⟨e2, _⟩ := hok' b _ (un.frzs b ob _ z)
      rw [e] at e1; cases e1
      exact e2
theorem law_callV (KX : K.In s₁.heap) (hns : s₁.heap.Ns mainGlobals mg) (hb : s₁.heap.Ns builtinsNs mb) (hbb : ∀ x : Str, x ≠ "__name__" → mb x = bootBuiltins x) (hlim : s₁.heap.NoLimit) (hg : s₁.gens = #[])
    (ha : s₁.heap.get? a = some { cls := .type "list", data := .seq vs.toArray }) (hi : IntsAre vs ns) (hl : ns.length ≤ sizeLine) (hr : Room k callerA)
    (pr : ∀ base : Heap, K.In base → base.Ns mainGlobals mg → FnV P w K mg base k fa fd [x] (spD K ca 1 F)) (hbind : ∀ (s : Shared) (u : Value), BindsTo s fd ⟨[u], []⟩ [(x, u)]) (hF : F [.list (ns.map .int)] = .ok .dat (.bool true)) :
    codeAny (model P w) callerA (.call (.ref fa) ⟨[.ref a], []⟩) (fun r s' => r = .ok (.ret (.bool true)) ∧ OldK s₁.heap s'.heap ∧ s'.os = s₁.os ∧ AllBare s'.gens) s₁ := by
  have rv := vals_ints hi
  have lenV := hi.length
  cases hk : K.lookup a with
  | some o =>
    have e := KX a o hk
    rw [ha] at e
    cases e
    have sq : SqL K (fun _ => none) a (ns.map V.int) := .inr ⟨_, vs.toArray, _, hk, rfl, rfl, rfl, by rw [List.size_toArray, lenV]; exact hl, by simpa using rv⟩
    exact core_call (H := fun _ => none) (G := fun _ => none) KX hns hb hbb hlim hg hr pr hbind (fun b u z => nomatch (show (none : Option HO) = some u from z)) (fun e n => hidT_get e n) (fun _ _ => rfl) (fun _ => rfl) (fun _ => .inl rfl) (fun b u z => nomatch (show (none : Option HO) = some u from z)) (.stat sq) hF
  | none =>
    have isA : ∀ {b : Addr} {u : HO}, only a { cls := .type "list", data := .seq vs.toArray } ns b = some u → b = a ∧ u = .frz { cls := .type "list", data := .seq vs.toArray } (.lst (ns.map V.int)) := fun {b u} z => by
      by_cases h : b = a
      · subst h; rw [only_at] at z; cases z; exact ⟨rfl, rfl⟩
      · rw [only_off h] at z; cases z
    refine core_call (H := only a { cls := .type "list", data := .seq vs.toArray } ns) (G := fun b => if b = a then some (.lst (ns.map V.int)) else none) (d := .list (ns.map .int)) KX hns hb hbb hlim hg hr pr hbind (fun b u z => ?_) (fun e n => hidT_get e n) (fun {b o es ep} e dd => ?_) (fun {b o} e => ?_) (fun b => ?_) (fun b u z => ?_) ?_ hF
    · obtain ⟨rfl, rfl⟩ := isA z
      exact ⟨ha, by rw [List.length_map]; exact hl, vs, _, rv, ha⟩
    · by_cases h : b = a
      · subst h
        rw [ha] at e; cases e
        exact nomatch (show Data.seq vs.toArray _ = Data.dict es ep from dd)
      · exact only_off h
    · by_cases h : b = a
      · subst h; rw [hk] at e; cases e
      · exact only_off h
    · by_cases h : b = a
      · subst h; exact .inr ⟨_, _, only_at⟩
      · exact .inl (only_off h)
    · by_cases h : b = a
      · subst h
        have z2 : some (HO.lst (ns.map V.int)) = some u := (if_pos rfl).symm.trans z
        cases z2
        exact .inr ⟨_, only_at⟩
      · have z2 : none = some u := (if_neg h).symm.trans z
        cases z2
    · exact .lst (if_pos rfl) (Reps.ints ns)
end
theorem walk_ofV {l : PySem.W.OpenLaw} {n k : Nat} {q : Program} {loose : List Str} {XP : (Str → Option Value) → Heap → Prop} {YP : World → Heap → Prop} {d : DefRec} {x : Str} {ca : PySem.W.Frag → String → Addr} {F : List D → Out}
    (hn : l.most = some n) (hn2 : n ≤ sizeLine) (hdf : d.params.defaults = []) (hr : Room k callerA)
    (W : ∀ (w : World) (mg : Str → Option Value) (fa : Addr) (h : Heap), YP w h → h.Ns mainGlobals mg → mg d.name = some (.ref fa) →
      ∃ (K : PySem.W.Frag) (fd : FuncData), K.In h ∧ (∀ (s : Shared) (u : Value), BindsTo s fd ⟨[u], []⟩ [(x, u)]) ∧ ∀ base : Heap, K.In base → base.Ns mainGlobals mg → FnV l.prog w K mg base k fa fd [x] (spD K (ca K) 1 F))
    (hF : ∀ ns : List Int, ns.length ≤ n → (∀ i ∈ ns, Builtin.Int.intBits i ≤ 1048576) → F [.list (ns.map .int)] = .ok .dat (.bool true)) : PySem.W.WalkO q loose XP YP l.row.toRowW d [] (fun f vs => PySem.call f vs) := by
  refine Att.attach_callB hn hdf fun w s₀ s₁ mg mb fa o pm cd doc a vs ns G Y ho hd hcd hmg hobj hints hlen hbits hg => ?_
  obtain ⟨K, fd, KX, hb, pr⟩ := W w mg fa _ Y G.T.g hmg
  exact law_callV KX G.T.g G.T.b G.T.builtins G.T.nolimit hg hobj hints (Nat.le_trans hlen hn2) hr pr hb (hF ns hlen hbits)
end Vb
namespace HeadX
open PySem PySem.Spec PyProof.Rows L2
def top (i : Nat) : Stmt := PySem.Challenge.pw_viewback_k01_names_and_trees.main.body.getD i (.Pass ⟨0, 0, 0, 0⟩)
def d3 : He.DefD := ⟨("is_whole", none), "is_whole", "is_whole", defArgs (top 3), defBody (top 3), defScope (top 3), [], []⟩
def d4 : He.DefD := ⟨("is_name", none), "is_name", "is_name", defArgs (top 4), defBody (top 4), defScope (top 4), [], []⟩
def d5 : He.DefD := ⟨("is_tree", none), "is_tree", "is_tree", defArgs (top 5), defBody (top 5), defScope (top 5), [], []⟩
def d6 : He.DefD := ⟨("is_table", none), "is_table", "is_table", defArgs (top 6), defBody (top 6), defScope (top 6), [], []⟩
def d8 : He.DefD := ⟨("_law_cell_at", none), "_law_cell_at", "_law_cell_at", defArgs (top 8), defBody (top 8), defScope (top 8), [], []⟩
def d9 : He.DefD := ⟨("_law_mixed", none), "_law_mixed", "_law_mixed", defArgs (top 9), defBody (top 9), defScope (top 9), [], []⟩
def d10 : He.DefD := ⟨("_law_name", none), "_law_name", "_law_name", defArgs (top 10), defBody (top 10), defScope (top 10), [], []⟩
def d11 : He.DefD := ⟨("_law_names", none), "_law_names", "_law_names", defArgs (top 11), defBody (top 11), defScope (top 11), [], []⟩
def d12 : He.DefD := ⟨("_law_number", none), "_law_number", "_law_number", defArgs (top 12), defBody (top 12), defScope (top 12), [], []⟩
def d13 : He.DefD := ⟨("_law_table", none), "_law_table", "_law_table", defArgs (top 13), defBody (top 13), defScope (top 13), [], []⟩
def d14 : He.DefD := ⟨("_law_house", none), "_law_house", "_law_house", defArgs (top 14), defBody (top 14), defScope (top 14), [], []⟩
def d15 : He.DefD := ⟨("_law_copy", none), "_law_copy", "_law_copy", defArgs (top 15), defBody (top 15), defScope (top 15), [], []⟩
def d16 : He.DefD := ⟨("_law_same", none), "_law_same", "_law_same", defArgs (top 16), defBody (top 16), defScope (top 16), [], []⟩
def d17 : He.DefD := ⟨("_law_odd", none), "_law_odd", "_law_odd", defArgs (top 17), defBody (top 17), defScope (top 17), [], []⟩
def d18 : He.DefD := ⟨("_law_is_name", none), "_law_is_name", "_law_is_name", defArgs (top 18), defBody (top 18), defScope (top 18), [], []⟩
def d19 : He.DefD := ⟨("_law_is_tree", none), "_law_is_tree", "_law_is_tree", defArgs (top 19), defBody (top 19), defScope (top 19), [], []⟩
def d20 : He.DefD := ⟨("_law_put_in", none), "_law_put_in", "_law_put_in", defArgs (top 20), defBody (top 20), defScope (top 20), [], []⟩
def d21 : He.DefD := ⟨("_law_text", none), "_law_text", "_law_text", defArgs (top 21), defBody (top 21), defScope (top 21), [], []⟩
def d22 : He.DefD := ⟨("law", none), "law", "law", defArgs (top 22), defBody (top 22), defScope (top 22), [], []⟩
def fn0 : List He.DefD := [d3, d4, d5, d6, d8, d9, d10, d11, d12, d13, d14, d15, d16, d17, d18, d19, d20, d21, d22]
def fn : List He.DefD := fn0
def ex (K : PySem.W.Frag) : Bool := true
def fa0 : List He.Fa := [.glo "is_whole", .glo "is_name", .glo "is_tree", .glo "is_table", .glo "_law_cell_at", .glo "_law_mixed", .glo "_law_name", .glo "_law_names", .glo "_law_number", .glo "_law_table", .glo "_law_house", .glo "_law_copy", .glo "_law_same", .glo "_law_odd", .glo "_law_is_name", .glo "_law_is_tree", .glo "_law_put_in", .glo "_law_text", .glo "law", .free "all"]
def fa1 : List He.Fa := [.free "bool", .free "dict", .free "enumerate", .free "int", .free "isinstance", .free "len", .free "list", .free "range", .free "repr", .free "sorted", .free "str", .str "LETTERS" "abcdefghijklmnopqrstuvwxyz", .int "MOST_LETTERS" (8)]
def fa : List He.Fa := fa0 ++ fa1
def lo0 : List PySem.Str := ["LETTERS", "MOST_LETTERS", "is_whole", "is_name", "is_tree", "is_table", "_law_cell_at", "_law_mixed", "_law_name", "_law_names", "_law_number", "_law_table", "_law_house", "_law_copy", "_law_same", "_law_odd", "_law_is_name", "_law_is_tree", "_law_put_in", "_law_text"]
def loose : List PySem.Str := lo0
abbrev R : PySem.W.OpenRow := PySem.W.OpenLaw.row PySem.Challenge.rw_viewback_k01_names_and_trees
abbrev hk : PySem.W.Hook := Vb.hookX 5 fa fn ex
def ob (s : PySem.W.SharedT) : Bool × He.AlD := Vb.obX 5 fa fn ex (HandSHeadRun.getT s)
theorem ob_eq (s : PySem.W.SharedT) : ob s = hk.obs s.abs := Vb.obX_eq (HandSHeadRun.getT_eq s)
theorem run (w : World) : HandSHeadRun.RunEq R (PySem.W.view R.prog [22]) hk ob 3000 loose w := by
  intro os
  kernel_rfl
end HeadX
namespace Vb
open PySem PySem.Spec PyProof.Rows L2
def b_is_whole : Ss := (sRet (eAnd (eIsT "int" (eVar 0)) (eNot (eIsT "bool" (eVar 0)))))
def F_is_whole : List D → Out := runS 1 b_is_whole
def b_is_name : Ss := (sSeq (sIf (eOr (eNot (eIsT "str" (eVar 0))) (eNot (eChain gLe gLe (eC (.int 1)) (eFn gLen (aCons (eVar 0) aNil)) (eC (.int (8)))))) (sRet (eC (.bool false))) sNil) (sRet (eFn gAll (aCons (eLC [1] (iVal (eVar 0)) (bName 1) eYes (eBin gIn (eVar 1) (eC (.str "abcdefghijklmnopqrstuvwxyz")))) aNil))))
def F_is_name : List D → Out := runS 2 b_is_name
def b_is_tree (r_is_tree : List D → Out) : Ss := (sSeq (sIf (eNot (eIsT "dict" (eVar 0))) (sRet (eCall 1 F_is_whole (aCons (eVar 0) aNil))) sNil) (sRet (eFn gAll (aCons (eLC [1] (iVal (eVar 0)) (bName 1) eYes (eAnd (eCall 1 F_is_name (aCons (eVar 1) aNil)) (eCall 1 r_is_tree (aCons (eBin gIx (eVar 0) (eVar 1)) aNil)))) aNil))))
def F_is_tree : Nat → List D → Out
  | 0 => fun _ => .stuck
  | n + 1 => runS 2 (b_is_tree (F_is_tree n))
def b_is_table : Ss := (sRet (eAnd (eIsT "dict" (eVar 0)) (eAnd (eCall 1 (F_is_tree 186) (aCons (eVar 0) aNil)) (eFn gAll (aCons (eLC [1] (iVal (eVar 0)) (bName 1) eYes (eIsT "dict" (eBin gIx (eVar 0) (eVar 1)))) aNil)))))
def F_is_table : List D → Out := runS 2 b_is_table
def b_law_cell_at : Ss := (sSeq (sIf (eBin gLt (eVar 1) (eFn gLen (aCons (eVar 0) aNil))) (sRet (eBin gIx (eVar 0) (eVar 1))) sNil) (sRet (eC (.int 0))))
def F_law_cell_at : List D → Out := runS 2 b_law_cell_at
def b_law_mixed : Ss := (sRet (eBin gMod (eBin gPlus (eBin gPlus (eBin gTimes (eCall 2 F_law_cell_at (aCons (eVar 0) (aCons (eBin gPlus (eC (.int 2)) (eBin gMod (eVar 1) (eC (.int 24)))) aNil))) (eC (.int 48271))) (eBin gTimes (eC (.int 7919)) (eVar 1))) (eC (.int 12345))) (eC (.int 2147483647))))
def F_law_mixed : List D → Out := runS 2 b_law_mixed
def b_law_name : Ss := (sSeq (sAsg 2 (eC (.str "abcdefghijklmnopqrstuvwxyz"))) (sSeq (sAsg 3 (eBin gPlus (eC (.int 1)) (eBin gMod (eVar 0) (eC (.int 8))))) (sSeq (sAsg 4 (eLC [5] (iRange (eC (.int 8))) (bName 5) eYes (eBin gIx (eVar 2) (eBin gMod (eBin gPlus (eBin gDiv (eVar 0) (eC (.int 8))) (eBin gTimes (eC (.int 5)) (eVar 5))) (eC (.int 26)))))) (sSeq (sIf (eBin gEq (eBin gMod (eBin gDiv (eVar 0) (eC (.int 1664))) (eC (.int 3))) (eC (.int 1))) (sSeq (sPut 4 (eC (.int 0)) (eBin gIx (eVar 2) (eBin gMod (eBin gPlus (eBin gDiv (eVar 0) (eC (.int 8))) (eBin gDiv (eVar 1) (eC (.int 8)))) (eC (.int 26))))) (sRet (eJoin (eC (.str "")) (eSl (eVar 4) (eC .none) (eI (eBin gPlus (eC (.int 1)) (eBin gMod (eVar 1) (eC (.int 8))))))))) sNil) (sSeq (sPut 4 (eBin gMod (eBin gDiv (eVar 0) (eC (.int 208))) (eVar 3)) (eBin gIx (eVar 2) (eBin gMod (eBin gPlus (eBin gPlus (eBin gDiv (eVar 0) (eC (.int 8))) (eC (.int 7))) (eVar 1)) (eC (.int 26))))) (sRet (eJoin (eC (.str "")) (eSl (eVar 4) (eC .none) (eI (eVar 3))))))))))
def F_law_name : List D → Out := runS 6 b_law_name
def b_law_names : Ss := (sRet (eLC [1] (iRange (eC (.int 14))) (bName 1) eYes (eCall 2 F_law_name (aCons (eDat (eCall 2 F_law_cell_at (aCons (eVar 0) (aCons (eC (.int 0)) aNil)))) (aCons (eVar 1) aNil)))))
def F_law_names : List D → Out := runS 2 b_law_names
def b_law_number : Ss := (sSeq (sIf (eBin gEq (eBin gMod (eVar 0) (eC (.int 5))) (eC (.int 4))) (sRet (eBin gPlus (eBin gIx (eLst (aCons (eBin gPow (eC (.int 10)) (eC (.int 20))) (aCons (eNeg (eBin gPow (eC (.int 10)) (eC (.int 20)))) (aCons (eBin gPow (eC (.int 10)) (eC (.int 12))) (aCons (eC (.int 0)) aNil))))) (eBin gMod (eBin gDiv (eVar 0) (eC (.int 5))) (eC (.int 4)))) (eBin gMod (eBin gDiv (eVar 0) (eC (.int 20))) (eC (.int 3))))) sNil) (sSeq (sIf (eBin gEq (eBin gMod (eVar 0) (eC (.int 5))) (eC (.int 3))) (sRet (eBin gSub (eBin gMod (eBin gTimes (eBin gDiv (eVar 0) (eC (.int 5))) (eC (.int 48271))) (eC (.int 2000003))) (eC (.int 1000001)))) sNil) (sSeq (sIf (eBin gEq (eBin gMod (eVar 0) (eC (.int 15))) (eC (.int 2))) (sRet (eBin gTimes (eFn gInt (aCons (eBin gTimes (eC (.str "37")) (eBin gPlus (eC (.int 1)) (eBin gMod (eBin gDiv (eVar 0) (eC (.int 15))) (eC (.int 14))))) aNil)) (eBin gSub (eC (.int 1)) (eBin gTimes (eBin gMod (eBin gDiv (eVar 0) (eC (.int 210))) (eC (.int 2))) (eC (.int 2)))))) sNil) (sRet (eBin gSub (eBin gMod (eBin gDiv (eVar 0) (eC (.int 5))) (eC (.int 9))) (eC (.int 4)))))))
def F_law_number : List D → Out := runS 1 b_law_number
def b_law_table : Ss := (sSeq (sAsg 4 eNewD) (sSeq (sFor (iRange (eC (.int 4))) (bName 5) (sIf (eBin gGt (eBin gMod (eCall 2 F_law_mixed (aCons (eVar 0) (aCons (eBin gPlus (eVar 1) (eBin gTimes (eC (.int 10)) (eVar 5))) aNil))) (eC (.int 3))) (eC (.int 0))) (sSeq (sAsg 6 eNewD) (sSeq (sFor (iEnum (eVar 3)) (bTup [7, 8]) (sSeq (sAsg 9 (eCall 2 F_law_mixed (aCons (eVar 0) (aCons (eBin gPlus (eBin gPlus (eBin gPlus (eVar 1) (eBin gTimes (eC (.int 10)) (eVar 5))) (eVar 7)) (eC (.int 1))) aNil)))) (sIf (eBin gGt (eBin gMod (eVar 9) (eC (.int 4))) (eC (.int 0))) (sPut 6 (eVar 8) (eCall 1 F_law_number (aCons (eBin gDiv (eVar 9) (eC (.int 4))) aNil))) (sIf (eBin gEq (eBin gMod (eVar 9) (eC (.int 12))) (eC (.int 0))) (sPut 6 (eVar 8) (eDisp (pCons (eBin gIx (eVar 2) (eC (.int 0))) (eBin gMod (eBin gDiv (eVar 9) (eC (.int 12))) (eC (.int 5))) pNil))) sNil)))) (sFrz 6 (sPut 4 (eBin gIx (eVar 2) (eBin gPlus (eC (.int 9)) (eVar 5))) (eVar 6))))) sNil)) (sRetV 4)))
def F_law_table : List D → Out := runS 10 b_law_table
def b_law_house : Ss := (sSeq (sAsg 2 (eDisp (pCons (eBin gIx (eVar 1) (eC (.int 0))) (eDat (eCall 1 F_law_number (aCons (eDat (eCall 2 F_law_mixed (aCons (eVar 0) (aCons (eC (.int 1)) aNil)))) aNil))) pNil))) (sSeq (sPut 2 (eBin gIx (eVar 1) (eC (.int 1))) (eDisp (pCons (eBin gIx (eVar 1) (eC (.int 5))) (eDat (eCall 1 F_law_number (aCons (eDat (eCall 2 F_law_mixed (aCons (eVar 0) (aCons (eC (.int 2)) aNil)))) aNil))) (pCons (eBin gIx (eVar 1) (eC (.int 6))) (eDat (eDisp (pCons (eBin gIx (eVar 1) (eC (.int 0))) (eC (.int 3)) pNil))) pNil)))) (sSeq (sPut 2 (eBin gIx (eVar 1) (eC (.int 2))) (eCall 4 F_law_table (aCons (eVar 0) (aCons (eC (.int 20)) (aCons (eVar 1) (aCons (eDat (eSl (eVar 1) (eI (eC (.int 5))) (eI (eC (.int 7))))) aNil)))))) (sSeq (sPut 2 (eBin gIx (eVar 1) (eC (.int 3))) (eCall 4 F_law_table (aCons (eVar 0) (aCons (eC (.int 70)) (aCons (eVar 1) (aCons (eDat (eSl (eVar 1) (eI (eC (.int 7))) (eI (eC (.int 9))))) aNil)))))) (sSeq (sPut 2 (eBin gIx (eVar 1) (eC (.int 4))) (eDisp (pCons (eBin gIx (eVar 1) (eC (.int 2))) (eDat (eCall 4 F_law_table (aCons (eVar 0) (aCons (eC (.int 120)) (aCons (eVar 1) (aCons (eDat (eSl (eVar 1) (eI (eC (.int 5))) (eI (eC (.int 9))))) aNil)))))) (pCons (eBin gIx (eVar 1) (eC (.int 0))) (eC (.int 1)) pNil)))) (sSeq (sFor (iRange (eC (.int 5))) (bName 3) (sIf (eBin gEq (eBin gMod (eCall 2 F_law_mixed (aCons (eVar 0) (aCons (eBin gPlus (eC (.int 200)) (eVar 3)) aNil))) (eC (.int 9))) (eC (.int 0))) (sPop 2 (eBin gIx (eVar 1) (eVar 3))) sNil)) (sFrz 2 (sRet (eBin gIx (eLst (aCons (eVar 2) (aCons (eGet2 (eVar 2) (eBin gIx (eVar 1) (eC (.int 2))) eNewD) (aCons (eGet2 (eVar 2) (eBin gIx (eVar 1) (eC (.int 4))) (eC (.int 5))) aNil)))) (eBin gMod (eBin gMod (eCall 2 F_law_cell_at (aCons (eVar 0) (aCons (eC (.int 1)) aNil))) (eC (.int 5))) (eC (.int 3))))))))))))
def F_law_house : List D → Out := runS 4 b_law_house
def b_law_copy (r__law_copy : List D → Out) : Ss := (sSeq (sIf (eIsT "dict" (eVar 0)) (sRet (eFn gDict (aCons (eLC [1] (iVal (eVar 0)) (bName 1) eYes (eTup (aCons (eVar 1) (aCons (eDat (eCall 1 r__law_copy (aCons (eBin gIx (eVar 0) (eVar 1)) aNil))) aNil)))) aNil))) sNil) (sRetV 0))
def F_law_copy : Nat → List D → Out
  | 0 => fun _ => .stuck
  | n + 1 => runS 2 (b_law_copy (F_law_copy n))
def b_law_same (r__law_same : List D → Out) : Ss := (sSeq (sIf (eIsT "dict" (eVar 1)) (sSeq (sIf (eOr (eNot (eIsT "dict" (eVar 0))) (eBin gNe (eFn gSorted (aCons (eFn gList (aCons (eVar 0) aNil)) aNil)) (eFn gSorted (aCons (eFn gList (aCons (eVar 1) aNil)) aNil)))) (sRet (eC (.bool false))) sNil) (sRet (eFn gAll (aCons (eLC [2] (iVal (eVar 1)) (bName 2) eYes (eCall 2 r__law_same (aCons (eBin gIx (eVar 0) (eVar 2)) (aCons (eBin gIx (eVar 1) (eVar 2)) aNil)))) aNil)))) sNil) (sRet (eAnd (eIsT "int" (eVar 0)) (eAnd (eNot (eIsT "bool" (eVar 0))) (eBin gEq (eVar 0) (eVar 1))))))
def F_law_same : Nat → List D → Out
  | 0 => fun _ => .stuck
  | n + 1 => runS 3 (b_law_same (F_law_same n))
def b_law_odd : Ss := (sSeq (sAsg 2 (eLst (aCons (eC (.bool true)) (aCons (eC (.bool false)) (aCons (eC .none) (aCons (eC (.str "")) (aCons (eC (.str "a")) (aCons (eC (.int 1)) (aCons (eNeg (eC (.int 1))) (aCons (eBin gPow (eC (.int 10)) (eC (.int 30))) (aCons (eTup aNil) (aCons (eDat (eLst aNil)) (aCons (eDat (eDisp (pCons (eC (.int 1)) (eC (.int 2)) pNil))) (aCons (eDat (eDisp (pCons (eVar 1) (eC (.bool true)) pNil))) (aCons (eDat (eDisp (pCons (eVar 1) (eC .none) pNil))) (aCons (eDat (eDisp (pCons (eC (.str "")) (eC (.int 1)) pNil))) aNil)))))))))))))))) (sSeq (sAsg 2 (eBin gPlus (eVar 2) (eLst (aCons (eDat (eDisp (pCons (eC (.str "A")) (eC (.int 1)) pNil))) (aCons (eDat (eDisp (pCons (eBin gPlus (eVar 1) (eBin gTimes (eC (.str "b")) (eC (.int 8)))) (eC (.int 1)) pNil))) (aCons (eDat (eDisp (pCons (eVar 1) (eDat (eLst (aCons (eC (.int 1)) aNil))) pNil))) (aCons (eDat (eDisp (pCons (eVar 1) (eDat (eDisp (pCons (eVar 1) (eC (.str "a")) pNil))) pNil))) (aCons (eOdd (eTup (aCons (eVar 1) aNil)) (eC (.int 1))) aNil)))))))) (sSeq (sAsg 2 (eBin gPlus (eVar 2) (eLst (aCons (eDat (eDisp (pCons (eC (.str "a1")) (eC (.int 1)) pNil))) (aCons (eDat (eDisp (pCons (eVar 1) (eOdd (eC .none) (eC (.int 1))) pNil))) aNil))))) (sRet (eBin gIx (eVar 2) (eBin gMod (eVar 0) (eC (.int 21))))))))
def F_law_odd : List D → Out := runS 3 b_law_odd
def b_law_is_name : Ss := (sSeq (sIf (eOr (eNot (eIsT "str" (eVar 0))) (eOr (eBin gLt (eFn gLen (aCons (eVar 0) aNil)) (eC (.int 1))) (eBin gGt (eFn gLen (aCons (eVar 0) aNil)) (eC (.int 8))))) (sRet (eC (.bool false))) sNil) (sRet (eBin gEq (eLC [1] (iVal (eVar 0)) (bName 1) (eBin gNotIn (eVar 1) (eC (.str "abcdefghijklmnopqrstuvwxyz"))) (eVar 1)) (eLst aNil))))
def F_law_is_name : List D → Out := runS 2 b_law_is_name
def b_law_is_tree (r__law_is_tree : List D → Out) : Ss := (sSeq (sIf (eIsT "dict" (eVar 0)) (sRet (eFn gAll (aCons (eLC [1] (iVal (eVar 0)) (bName 1) eYes (eAnd (eCall 1 F_law_is_name (aCons (eVar 1) aNil)) (eCall 1 r__law_is_tree (aCons (eBin gIx (eVar 0) (eVar 1)) aNil)))) aNil))) sNil) (sRet (eAnd (eIsT "int" (eVar 0)) (eNot (eIsT "bool" (eVar 0))))))
def F_law_is_tree : Nat → List D → Out
  | 0 => fun _ => .stuck
  | n + 1 => runS 2 (b_law_is_tree (F_law_is_tree n))
def b_law_put_in (r__law_put_in : List D → Out) : Ss := (sSeq (sIf (eOr (eNot (eIsT "dict" (eVar 0))) (eBin gEq (eFn gLen (aCons (eVar 0) aNil)) (eC (.int 0)))) (sRetV 2) sNil) (sSeq (sAsg 3 (eFn gSorted (aCons (eFn gList (aCons (eVar 0) aNil)) aNil))) (sSeq (sAsg 4 (eFn gDict (aCons (eVar 0) aNil))) (sSeq (sAsg 5 (eBin gIx (eVar 3) (eBin gMod (eVar 1) (eFn gLen (aCons (eVar 3) aNil))))) (sSeq (sPut 4 (eVar 5) (eIte (eBin gEq (eBin gMod (eBin gDiv (eVar 1) (eC (.int 8))) (eC (.int 3))) (eC (.int 0))) (eVar 2) (eCall 3 r__law_put_in (aCons (eBin gIx (eVar 0) (eVar 5)) (aCons (eBin gDiv (eVar 1) (eC (.int 24))) (aCons (eVar 2) aNil)))))) (sRetV 4))))))
def F_law_put_in : Nat → List D → Out
  | 0 => fun _ => .stuck
  | n + 1 => runS 6 (b_law_put_in (F_law_put_in n))
def b_law_text : Ss := (sSeq (sAsg 2 (eC (.str " !#&()*+,-./0123456789:;<=>?@ABCDEFGHIJKLMNOPQRSTUVWXYZ[]^_{|}~"))) (sSeq (sAsg 3 (eBin gMod (eBin gDiv (eVar 0) (eC (.int 4))) (eBin gPlus (eFn gLen (aCons (eVar 1) aNil)) (eC (.int 1))))) (sSeq (sIf (eBin gEq (eBin gMod (eVar 0) (eC (.int 4))) (eC (.int 0))) (sRet (eBin gPlus (eBin gPlus (eSl (eVar 1) (eC .none) (eI (eVar 3))) (eBin gIx (eVar 2) (eBin gMod (eBin gDiv (eVar 0) (eC (.int 40))) (eFn gLen (aCons (eVar 2) aNil))))) (eSl (eVar 1) (eI (eVar 3)) (eC .none)))) sNil) (sRet (eBin gIx (eLst (aCons (eVar 1) (aCons (eBin gTimes (eVar 1) (eC (.int 2))) (aCons (eDat (eSl (eC (.str "abcdefghi")) (eC .none) (eI (eBin gMod (eBin gDiv (eVar 0) (eC (.int 4))) (eC (.int 10)))))) (aCons (eDat (eSl (eVar 1) (eC .none) (eI (eVar 3)))) aNil))))) (eBin gMod (eVar 0) (eC (.int 4))))))))
def F_law_text : List D → Out := runS 4 b_law_text
def b_law : Ss := (sSeq (sAsg 1 (eCall 1 F_law_names (aCons (eVar 0) aNil))) (sSeq (sFrz 1 (sAsg 2 (eCall 2 F_law_house (aCons (eVar 0) (aCons (eVar 1) aNil))))) (sSeq (sFor (iVal (eSl (eVar 0) (eI (eC (.int 2))) (eI (eC (.int 26))))) (bName 3) (sSeq (sFrz 2 (sAsg 4 (eCall 3 (F_law_put_in 20) (aCons (eVar 2) (aCons (eBin gDiv (eVar 3) (eC (.int 3))) (aCons (eDat (eCall 2 F_law_odd (aCons (eVar 3) (aCons (eBin gIx (eVar 1) (eBin gMod (eVar 3) (eC (.int 14)))) aNil)))) aNil)))))) (sSeq (sAsg 5 (eFn gRepr (aCons (eVar 4) aNil))) (sSeq (sFrz 2 (sFrz 4 (sAsg 6 (eLst (aCons (eVar 2) (aCons (eVar 4) (aCons (eDat (eCall 2 F_law_odd (aCons (eBin gDiv (eVar 3) (eC (.int 21))) (aCons (eBin gIx (eVar 1) (eC (.int 3))) aNil)))) (aCons (eDat (eCall 2 F_law_text (aCons (eVar 3) (aCons (eBin gIx (eVar 1) (eBin gMod (eBin gDiv (eVar 3) (eC (.int 5))) (eC (.int 14)))) aNil)))) aNil)))))))) (sSeq (sFrz 6 (sFor (iVal (eVar 6)) (bName 7) (sSeq (sAsg 8 (eAnd (eIsT "dict" (eVar 7)) (eCall 1 (F_law_is_tree 20) (aCons (eVar 7) aNil)))) (sSeq (sAsg 8 (eAnd (eVar 8) (eFn gAll (aCons (eLC [11] (iVal (eVar 7)) (bName 11) eYes (eIsT "dict" (eBin gIx (eVar 7) (eVar 11)))) aNil)))) (sSeq (sAsg 9 (eLst (aCons (eDat (eCall 1 F_law_is_name (aCons (eVar 7) aNil))) (aCons (eDat (eCall 1 (F_law_is_tree 20) (aCons (eVar 7) aNil))) (aCons (eVar 8) aNil))))) (sSeq (sAsg 10 (eLst (aCons (eDat (eCall 1 F_is_name (aCons (eVar 7) aNil))) (aCons (eDat (eCall 1 (F_is_tree 186) (aCons (eVar 7) aNil))) (aCons (eDat (eCall 1 F_is_table (aCons (eVar 7) aNil))) aNil))))) (sFrz 10 (sIf (eOr (eBin gNe (eLC [12] (iVal (eVar 10)) (bName 12) (eNot (eIsT "bool" (eVar 12))) (eVar 12)) (eLst aNil)) (eBin gNe (eVar 10) (eVar 9))) (sRet (eC (.bool false))) sNil)))))))) (sIf (eBin gNe (eFn gRepr (aCons (eVar 4) aNil)) (eVar 5)) (sRet (eC (.bool false))) sNil)))))) (sSeq (sIf (eBin gNotB (eCall 1 F_is_table (aCons (eBin gIx (eVar 1) (eC (.int 0))) aNil)) (eC (.bool false))) (sRet (eC (.bool false))) sNil) (sRet (eAnd (eBin gIsB (eCall 1 F_is_table (aCons (eDat eNewD) aNil)) (eC (.bool true))) (eBin gIsB (eCall 1 (F_is_tree 186) (aCons (eC (.int 0)) aNil)) (eC (.bool true)))))))))
def F_law : List D → Out := runS 13 b_law
end Vb
namespace Vb
open PySem PySem.Spec PyProof.Rows L2
abbrev ca (K : PySem.W.Frag) : String → Addr := fun x => He.ga K x
structure Fx (K : PySem.W.Frag) (mg : Str → Option Value) : Prop where
  n_all : mg "all" = none
  n_bool : mg "bool" = none
  n_dict : mg "dict" = none
  n_enumerate : mg "enumerate" = none
  n_int : mg "int" = none
  n_isinstance : mg "isinstance" = none
  n_len : mg "len" = none
  n_list : mg "list" = none
  n_range : mg "range" = none
  n_repr : mg "repr" = none
  n_sorted : mg "sorted" = none
  n_str : mg "str" = none
  v_MOST_LETTERS : ∃ t, mg "MOST_LETTERS" = some (.int (8) t)
  v_LETTERS : ∃ t, mg "LETTERS" = some (.str "abcdefghijklmnopqrstuvwxyz" t)
  d_is_whole : ∃ f fd, FunD K "is_whole" "is_whole" (defArgs (HeadX.top 3)) (defBody (HeadX.top 3)) (defScope (HeadX.top 3)) [] [] f fd ∧ mg "is_whole" = some (.ref f)
  d_is_name : ∃ f fd, FunD K "is_name" "is_name" (defArgs (HeadX.top 4)) (defBody (HeadX.top 4)) (defScope (HeadX.top 4)) [] [] f fd ∧ mg "is_name" = some (.ref f)
  d_is_tree : ∃ f fd, FunD K "is_tree" "is_tree" (defArgs (HeadX.top 5)) (defBody (HeadX.top 5)) (defScope (HeadX.top 5)) [] [] f fd ∧ mg "is_tree" = some (.ref f)
  d_is_table : ∃ f fd, FunD K "is_table" "is_table" (defArgs (HeadX.top 6)) (defBody (HeadX.top 6)) (defScope (HeadX.top 6)) [] [] f fd ∧ mg "is_table" = some (.ref f)
  d_law_cell_at : ∃ f fd, FunD K "_law_cell_at" "_law_cell_at" (defArgs (HeadX.top 8)) (defBody (HeadX.top 8)) (defScope (HeadX.top 8)) [] [] f fd ∧ mg "_law_cell_at" = some (.ref f)
  d_law_mixed : ∃ f fd, FunD K "_law_mixed" "_law_mixed" (defArgs (HeadX.top 9)) (defBody (HeadX.top 9)) (defScope (HeadX.top 9)) [] [] f fd ∧ mg "_law_mixed" = some (.ref f)
  d_law_name : ∃ f fd, FunD K "_law_name" "_law_name" (defArgs (HeadX.top 10)) (defBody (HeadX.top 10)) (defScope (HeadX.top 10)) [] [] f fd ∧ mg "_law_name" = some (.ref f)
  d_law_names : ∃ f fd, FunD K "_law_names" "_law_names" (defArgs (HeadX.top 11)) (defBody (HeadX.top 11)) (defScope (HeadX.top 11)) [] [] f fd ∧ mg "_law_names" = some (.ref f)
  d_law_number : ∃ f fd, FunD K "_law_number" "_law_number" (defArgs (HeadX.top 12)) (defBody (HeadX.top 12)) (defScope (HeadX.top 12)) [] [] f fd ∧ mg "_law_number" = some (.ref f)
  d_law_table : ∃ f fd, FunD K "_law_table" "_law_table" (defArgs (HeadX.top 13)) (defBody (HeadX.top 13)) (defScope (HeadX.top 13)) [] [] f fd ∧ mg "_law_table" = some (.ref f)
  d_law_house : ∃ f fd, FunD K "_law_house" "_law_house" (defArgs (HeadX.top 14)) (defBody (HeadX.top 14)) (defScope (HeadX.top 14)) [] [] f fd ∧ mg "_law_house" = some (.ref f)
  d_law_copy : ∃ f fd, FunD K "_law_copy" "_law_copy" (defArgs (HeadX.top 15)) (defBody (HeadX.top 15)) (defScope (HeadX.top 15)) [] [] f fd ∧ mg "_law_copy" = some (.ref f)
  d_law_same : ∃ f fd, FunD K "_law_same" "_law_same" (defArgs (HeadX.top 16)) (defBody (HeadX.top 16)) (defScope (HeadX.top 16)) [] [] f fd ∧ mg "_law_same" = some (.ref f)
  d_law_odd : ∃ f fd, FunD K "_law_odd" "_law_odd" (defArgs (HeadX.top 17)) (defBody (HeadX.top 17)) (defScope (HeadX.top 17)) [] [] f fd ∧ mg "_law_odd" = some (.ref f)
  d_law_is_name : ∃ f fd, FunD K "_law_is_name" "_law_is_name" (defArgs (HeadX.top 18)) (defBody (HeadX.top 18)) (defScope (HeadX.top 18)) [] [] f fd ∧ mg "_law_is_name" = some (.ref f)
  d_law_is_tree : ∃ f fd, FunD K "_law_is_tree" "_law_is_tree" (defArgs (HeadX.top 19)) (defBody (HeadX.top 19)) (defScope (HeadX.top 19)) [] [] f fd ∧ mg "_law_is_tree" = some (.ref f)
  d_law_put_in : ∃ f fd, FunD K "_law_put_in" "_law_put_in" (defArgs (HeadX.top 20)) (defBody (HeadX.top 20)) (defScope (HeadX.top 20)) [] [] f fd ∧ mg "_law_put_in" = some (.ref f)
  d_law_text : ∃ f fd, FunD K "_law_text" "_law_text" (defArgs (HeadX.top 21)) (defBody (HeadX.top 21)) (defScope (HeadX.top 21)) [] [] f fd ∧ mg "_law_text" = some (.ref f)
  d_law : ∃ f fd, FunD K "law" "law" (defArgs (HeadX.top 22)) (defBody (HeadX.top 22)) (defScope (HeadX.top 22)) [] [] f fd ∧ mg "law" = some (.ref f)
end Vb
namespace Vb
open PySem PySem.Spec PyProof.Rows L2
section
variable {P : Program} {w : World} {K : PySem.W.Frag} {mg : Str → Option Value} {base : Heap}
theorem sc_is_whole : FnScope ["thing"] ["thing"] (defScope (HeadX.top 3)) := ⟨rfl, rfl, rfl, by decide +kernel, rfl, by decide +kernel, by decide +kernel⟩
theorem fv_is_whole (fx : Fx K mg) {f : Addr} {fd : FuncData} (Fn : FunD K "is_whole" "is_whole" (defArgs (HeadX.top 3)) (defBody (HeadX.top 3)) (defScope (HeadX.top 3)) [] [] f fd) : FnV P w K mg base (0 + 1) f fd ["thing"] (spD K (ca K) 1 (runS 1 b_is_whole)) := by
  refine fnv_of (P := P) (w := w) (K := K) (mg := mg) (base := base) (ca := ca K) (k := 0) (N := ["thing"]) (ps := ["thing"]) (fS := b_is_whole) Fn sc_is_whole ?_
  intro cdv A outer s H E hr
  have hu : (A.deeper (envOfC "is_whole" (defScope (HeadX.top 3)) s.heap.objs.size f cdv)).units + 64 < cLine := by have := hr.room.un; omega
  have hu1 : (A.deeper (envOfC "is_whole" (defScope (HeadX.top 3)) s.heap.objs.size f cdv)).units + 1 < cLine := by omega
  have hu2 : (A.deeper (envOfC "is_whole" (defScope (HeadX.top 3)) s.heap.objs.size f cdv)).units + 66 < cLine := by have := hr.room.un; omega
  have nd := sc_is_whole.nd
  have tks : Takes (bodyX P w K mg base ["thing"] "is_whole" (defScope (HeadX.top 3)) f cdv A outer s H E) (WB E) := takes_of rfl rfl rfl rfl
  have tk := lets_of tks
  have po : PassesOwn (model P w) (bodyX P w K mg base ["thing"] "is_whole" (defScope (HeadX.top 3)) f cdv A outer s H E).A (bodyX P w K mg base ["thing"] "is_whole" (defScope (HeadX.top 3)) f cdv A outer s H E).env (bodyX P w K mg base ["thing"] "is_whole" (defScope (HeadX.top 3)) f cdv A outer s H E).xe := passes_of rfl
  unfold b_is_whole
  exact (sndb_one (snds_ret (snd_and (snd_isT (T := "int") (by simp) (snd_var (i := 0) rfl (by first | exact .inl rfl | exact .inr (.inl rfl) | exact .inr (.inr rfl))) rfl fx.n_isinstance bt_isinstance rfl fx.n_int bt_int (by decide) (by decide) (by decide) (by decide) rfl rfl rfl) (snd_one (snd_not (snd_isT (T := "bool") (by simp) (snd_var (i := 0) rfl (by first | exact .inl rfl | exact .inr (.inl rfl) | exact .inr (.inr rfl))) rfl fx.n_isinstance bt_isinstance rfl fx.n_bool bt_bool (by decide) (by decide) (by decide) (by decide) rfl rfl rfl))))))
theorem fn_is_whole (fx : Fx K mg) : CalD P w K mg base (ca K) (0 + 1) "is_whole" 1 (runS 1 b_is_whole) := by
  obtain ⟨f, fd, Fn, hm⟩ := fx.d_is_whole
  exact CalD.mk' (fv_is_whole fx Fn) hm Fn.kp (Fn.bindsN fun _ _ _ _ _ _ us hl => match us, hl with | [_], _ => rfl)
theorem cal_is_whole (fx : Fx K mg) : CalD P w K mg base (ca K) 1 "is_whole" 1 F_is_whole := fn_is_whole fx
theorem sc_is_name : FnScope ["thing", "sign"] ["thing"] (defScope (HeadX.top 4)) := ⟨rfl, rfl, rfl, by decide +kernel, rfl, by decide +kernel, by decide +kernel⟩
theorem fv_is_name (fx : Fx K mg) {f : Addr} {fd : FuncData} (Fn : FunD K "is_name" "is_name" (defArgs (HeadX.top 4)) (defBody (HeadX.top 4)) (defScope (HeadX.top 4)) [] [] f fd) : FnV P w K mg base (0 + 1) f fd ["thing"] (spD K (ca K) 1 (runS 2 b_is_name)) := by
  refine fnv_of (P := P) (w := w) (K := K) (mg := mg) (base := base) (ca := ca K) (k := 0) (N := ["thing", "sign"]) (ps := ["thing"]) (fS := b_is_name) Fn sc_is_name ?_
  intro cdv A outer s H E hr
  have hu : (A.deeper (envOfC "is_name" (defScope (HeadX.top 4)) s.heap.objs.size f cdv)).units + 64 < cLine := by have := hr.room.un; omega
  have hu1 : (A.deeper (envOfC "is_name" (defScope (HeadX.top 4)) s.heap.objs.size f cdv)).units + 1 < cLine := by omega
  have hu2 : (A.deeper (envOfC "is_name" (defScope (HeadX.top 4)) s.heap.objs.size f cdv)).units + 66 < cLine := by have := hr.room.un; omega
  have nd := sc_is_name.nd
  have tks : Takes (bodyX P w K mg base ["thing", "sign"] "is_name" (defScope (HeadX.top 4)) f cdv A outer s H E) (WB E) := takes_of rfl rfl rfl rfl
  have tk := lets_of tks
  have po : PassesOwn (model P w) (bodyX P w K mg base ["thing", "sign"] "is_name" (defScope (HeadX.top 4)) f cdv A outer s H E).A (bodyX P w K mg base ["thing", "sign"] "is_name" (defScope (HeadX.top 4)) f cdv A outer s H E).env (bodyX P w K mg base ["thing", "sign"] "is_name" (defScope (HeadX.top 4)) f cdv A outer s H E).xe := passes_of rfl
  unfold b_is_name
  exact (sndb_cons (snds_if (sndw_t (sndw_or (sndt_not (sndt_val (snd_isT (T := "str") (by simp) (snd_var (i := 0) rfl (by first | exact .inl rfl | exact .inr (.inl rfl) | exact .inr (.inr rfl))) rfl fx.n_isinstance bt_isinstance rfl fx.n_str bt_str (by decide) (by decide) (by decide) (by decide) rfl rfl rfl) (fun _ => rfl))) (sndw_or1 (sndt_not (sndt_chain gLe_ok gLe_ok snd_int (snd_callB gLen_ok rfl fx.n_len bt_len (snda_cons (snd_var (i := 0) rfl (by first | exact .inl rfl | exact .inr (.inl rfl) | exact .inr (.inr rfl))) snda_nil rfl)) (snd_gint rfl fx.v_MOST_LETTERS.choose_spec) rfl))))) (sndb_one (snds_ret snd_bl)) sndb_nil) (sndb_one (snds_ret (snd_callB (gAll_ok rfl) rfl fx.n_all bt_all (snda_cons (snd_lc (own := [("sign", 1)]) rfl rfl tks rfl nd (by decide) (sndi_val (snd_var (i := 0) rfl (by first | exact .inl rfl | exact .inr (.inl rfl) | exact .inr (.inr rfl)))) (blkok_of (N := ["thing", "sign"]) (sc := defScope (HeadX.top 4)) (by decide +kernel)) (fun s H C cl fp E => (sndg_name nd rfl (by first | exact .inl rfl | exact .inr rfl))) (fun s H C cl fp E W tk => sndts_nil) (fun s H C cl fp E W tk => (snd_cmp (gIn_ok hu1) (snd_var (i := 1) rfl (by first | exact .inl rfl | exact .inr (.inl rfl) | exact .inr (.inr rfl))) (snd_gstr rfl fx.v_LETTERS.choose_spec) rfl))) snda_nil rfl)))))
theorem fn_is_name (fx : Fx K mg) : CalD P w K mg base (ca K) (0 + 1) "is_name" 1 (runS 2 b_is_name) := by
  obtain ⟨f, fd, Fn, hm⟩ := fx.d_is_name
  exact CalD.mk' (fv_is_name fx Fn) hm Fn.kp (Fn.bindsN fun _ _ _ _ _ _ us hl => match us, hl with | [_], _ => rfl)
theorem cal_is_name (fx : Fx K mg) : CalD P w K mg base (ca K) 1 "is_name" 1 F_is_name := fn_is_name fx
theorem sc_is_tree : FnScope ["thing", "name"] ["thing"] (defScope (HeadX.top 5)) := ⟨rfl, rfl, rfl, by decide +kernel, rfl, by decide +kernel, by decide +kernel⟩
theorem fv_is_tree {k : Nat} {r_is_tree : List D → Out} (fx : Fx K mg) (hk : 1 ≤ k) (h_is_tree : CalD P w K mg base (ca K) k "is_tree" 1 r_is_tree) {f : Addr} {fd : FuncData} (Fn : FunD K "is_tree" "is_tree" (defArgs (HeadX.top 5)) (defBody (HeadX.top 5)) (defScope (HeadX.top 5)) [] [] f fd) : FnV P w K mg base (k + 1) f fd ["thing"] (spD K (ca K) 1 (runS 2 (b_is_tree r_is_tree))) := by
  refine fnv_of (P := P) (w := w) (K := K) (mg := mg) (base := base) (ca := ca K) (k := k) (N := ["thing", "name"]) (ps := ["thing"]) (fS := (b_is_tree r_is_tree)) Fn sc_is_tree ?_
  intro cdv A outer s H E hr
  have hu : (A.deeper (envOfC "is_tree" (defScope (HeadX.top 5)) s.heap.objs.size f cdv)).units + 64 < cLine := by have := hr.room.un; omega
  have hu1 : (A.deeper (envOfC "is_tree" (defScope (HeadX.top 5)) s.heap.objs.size f cdv)).units + 1 < cLine := by omega
  have hu2 : (A.deeper (envOfC "is_tree" (defScope (HeadX.top 5)) s.heap.objs.size f cdv)).units + 66 < cLine := by have := hr.room.un; omega
  have nd := sc_is_tree.nd
  have tks : Takes (bodyX P w K mg base ["thing", "name"] "is_tree" (defScope (HeadX.top 5)) f cdv A outer s H E) (WB E) := takes_of rfl rfl rfl rfl
  have tk := lets_of tks
  have po : PassesOwn (model P w) (bodyX P w K mg base ["thing", "name"] "is_tree" (defScope (HeadX.top 5)) f cdv A outer s H E).A (bodyX P w K mg base ["thing", "name"] "is_tree" (defScope (HeadX.top 5)) f cdv A outer s H E).env (bodyX P w K mg base ["thing", "name"] "is_tree" (defScope (HeadX.top 5)) f cdv A outer s H E).xe := passes_of rfl
  unfold b_is_tree
  exact (sndb_cons (snds_if (sndt_not (sndt_val (snd_isT (T := "dict") (by simp) (snd_var (i := 0) rfl (by first | exact .inl rfl | exact .inr (.inl rfl) | exact .inr (.inr rfl))) rfl fx.n_isinstance bt_isinstance rfl fx.n_dict bt_dict (by decide) (by decide) (by decide) (by decide) rfl rfl rfl) (fun _ => rfl))) (sndb_one (snds_ret (snd_call ((cal_is_whole fx).up (by omega)).c hr tk rfl (snda_cons (snd_var (i := 0) rfl (by first | exact .inl rfl | exact .inr (.inl rfl) | exact .inr (.inr rfl))) snda_nil rfl)))) sndb_nil) (sndb_one (snds_ret (snd_callB (gAll_ok rfl) rfl fx.n_all bt_all (snda_cons (snd_lc (own := [("name", 1)]) rfl rfl tks rfl nd (by decide) (sndi_val (snd_var (i := 0) rfl (by first | exact .inl rfl | exact .inr (.inl rfl) | exact .inr (.inr rfl)))) (blkok_of (N := ["thing", "name"]) (sc := defScope (HeadX.top 5)) (by decide +kernel)) (fun s H C cl fp E => (sndg_name nd rfl (by first | exact .inl rfl | exact .inr rfl))) (fun s H C cl fp E W tk => sndts_nil) (fun s H C cl fp E W tk => (snd_and (snd_call ((cal_is_name fx).up (by omega)).c hr tk rfl (snda_cons (snd_var (i := 1) rfl (by first | exact .inl rfl | exact .inr (.inl rfl) | exact .inr (.inr rfl))) snda_nil rfl)) (snd_one (snd_call (h_is_tree).c hr tk rfl (snda_cons (snd_ix (gIx_ok hu1) (snd_var (i := 0) rfl (by first | exact .inl rfl | exact .inr (.inl rfl) | exact .inr (.inr rfl))) (snd_var (i := 1) rfl (by first | exact .inl rfl | exact .inr (.inl rfl) | exact .inr (.inr rfl))) (fun _ _ => rfl)) snda_nil rfl)))))) snda_nil rfl)))))
theorem fn_is_tree {k : Nat} {r_is_tree : List D → Out} (fx : Fx K mg) (hk : 1 ≤ k) (h_is_tree : CalD P w K mg base (ca K) k "is_tree" 1 r_is_tree) : CalD P w K mg base (ca K) (k + 1) "is_tree" 1 (runS 2 (b_is_tree r_is_tree)) := by
  obtain ⟨f, fd, Fn, hm⟩ := fx.d_is_tree
  exact CalD.mk' (fv_is_tree fx hk h_is_tree Fn) hm Fn.kp (Fn.bindsN fun _ _ _ _ _ _ us hl => match us, hl with | [_], _ => rfl)
theorem cal_is_tree (fx : Fx K mg) : ∀ n : Nat, CalD P w K mg base (ca K) (1 + n) "is_tree" 1 (F_is_tree n)
  | 0 => by
    obtain ⟨f, fd, Fn, hm⟩ := fx.d_is_tree
    exact CalD.mk' (ps := ["thing"]) (fnv_stuck rfl) hm Fn.kp (Fn.bindsN fun _ _ _ _ _ _ us hl => match us, hl with | [_], _ => rfl)
  | n + 1 => fn_is_tree fx (k := 1 + n) (by omega) (cal_is_tree fx n)
theorem sc_is_table : FnScope ["thing", "key"] ["thing"] (defScope (HeadX.top 6)) := ⟨rfl, rfl, rfl, by decide +kernel, rfl, by decide +kernel, by decide +kernel⟩
theorem fv_is_table (fx : Fx K mg) {f : Addr} {fd : FuncData} (Fn : FunD K "is_table" "is_table" (defArgs (HeadX.top 6)) (defBody (HeadX.top 6)) (defScope (HeadX.top 6)) [] [] f fd) : FnV P w K mg base (187 + 1) f fd ["thing"] (spD K (ca K) 1 (runS 2 b_is_table)) := by
  refine fnv_of (P := P) (w := w) (K := K) (mg := mg) (base := base) (ca := ca K) (k := 187) (N := ["thing", "key"]) (ps := ["thing"]) (fS := b_is_table) Fn sc_is_table ?_
  intro cdv A outer s H E hr
  have hu : (A.deeper (envOfC "is_table" (defScope (HeadX.top 6)) s.heap.objs.size f cdv)).units + 64 < cLine := by have := hr.room.un; omega
  have hu1 : (A.deeper (envOfC "is_table" (defScope (HeadX.top 6)) s.heap.objs.size f cdv)).units + 1 < cLine := by omega
  have hu2 : (A.deeper (envOfC "is_table" (defScope (HeadX.top 6)) s.heap.objs.size f cdv)).units + 66 < cLine := by have := hr.room.un; omega
  have nd := sc_is_table.nd
  have tks : Takes (bodyX P w K mg base ["thing", "key"] "is_table" (defScope (HeadX.top 6)) f cdv A outer s H E) (WB E) := takes_of rfl rfl rfl rfl
  have tk := lets_of tks
  have po : PassesOwn (model P w) (bodyX P w K mg base ["thing", "key"] "is_table" (defScope (HeadX.top 6)) f cdv A outer s H E).A (bodyX P w K mg base ["thing", "key"] "is_table" (defScope (HeadX.top 6)) f cdv A outer s H E).env (bodyX P w K mg base ["thing", "key"] "is_table" (defScope (HeadX.top 6)) f cdv A outer s H E).xe := passes_of rfl
  unfold b_is_table
  exact (sndb_one (snds_ret (snd_and (snd_isT (T := "dict") (by simp) (snd_var (i := 0) rfl (by first | exact .inl rfl | exact .inr (.inl rfl) | exact .inr (.inr rfl))) rfl fx.n_isinstance bt_isinstance rfl fx.n_dict bt_dict (by decide) (by decide) (by decide) (by decide) rfl rfl rfl) (snd_and (snd_call ((cal_is_tree fx 186).up (by omega)).c hr tk rfl (snda_cons (snd_var (i := 0) rfl (by first | exact .inl rfl | exact .inr (.inl rfl) | exact .inr (.inr rfl))) snda_nil rfl)) (snd_one (snd_callB (gAll_ok rfl) rfl fx.n_all bt_all (snda_cons (snd_lc (own := [("key", 1)]) rfl rfl tks rfl nd (by decide) (sndi_val (snd_var (i := 0) rfl (by first | exact .inl rfl | exact .inr (.inl rfl) | exact .inr (.inr rfl)))) (blkok_of (N := ["thing", "key"]) (sc := defScope (HeadX.top 6)) (by decide +kernel)) (fun s H C cl fp E => (sndg_name nd rfl (by first | exact .inl rfl | exact .inr rfl))) (fun s H C cl fp E W tk => sndts_nil) (fun s H C cl fp E W tk => (snd_isT (T := "dict") (by simp) (snd_ix (gIx_ok hu1) (snd_var (i := 0) rfl (by first | exact .inl rfl | exact .inr (.inl rfl) | exact .inr (.inr rfl))) (snd_var (i := 1) rfl (by first | exact .inl rfl | exact .inr (.inl rfl) | exact .inr (.inr rfl))) (fun _ _ => rfl)) rfl fx.n_isinstance bt_isinstance rfl fx.n_dict bt_dict (by decide) (by decide) (by decide) (by decide) rfl rfl rfl))) snda_nil rfl)))))))
theorem fn_is_table (fx : Fx K mg) : CalD P w K mg base (ca K) (187 + 1) "is_table" 1 (runS 2 b_is_table) := by
  obtain ⟨f, fd, Fn, hm⟩ := fx.d_is_table
  exact CalD.mk' (fv_is_table fx Fn) hm Fn.kp (Fn.bindsN fun _ _ _ _ _ _ us hl => match us, hl with | [_], _ => rfl)
theorem cal_is_table (fx : Fx K mg) : CalD P w K mg base (ca K) 188 "is_table" 1 F_is_table := fn_is_table fx
theorem sc_law_cell_at : FnScope ["_law_script", "_law_k"] ["_law_script", "_law_k"] (defScope (HeadX.top 8)) := ⟨rfl, rfl, rfl, by decide +kernel, rfl, by decide +kernel, by decide +kernel⟩
theorem fv_law_cell_at (fx : Fx K mg) {f : Addr} {fd : FuncData} (Fn : FunD K "_law_cell_at" "_law_cell_at" (defArgs (HeadX.top 8)) (defBody (HeadX.top 8)) (defScope (HeadX.top 8)) [] [] f fd) : FnV P w K mg base (0 + 1) f fd ["_law_script", "_law_k"] (spD K (ca K) 2 (runS 2 b_law_cell_at)) := by
  refine fnv_of (P := P) (w := w) (K := K) (mg := mg) (base := base) (ca := ca K) (k := 0) (N := ["_law_script", "_law_k"]) (ps := ["_law_script", "_law_k"]) (fS := b_law_cell_at) Fn sc_law_cell_at ?_
  intro cdv A outer s H E hr
  have hu : (A.deeper (envOfC "_law_cell_at" (defScope (HeadX.top 8)) s.heap.objs.size f cdv)).units + 64 < cLine := by have := hr.room.un; omega
  have hu1 : (A.deeper (envOfC "_law_cell_at" (defScope (HeadX.top 8)) s.heap.objs.size f cdv)).units + 1 < cLine := by omega
  have hu2 : (A.deeper (envOfC "_law_cell_at" (defScope (HeadX.top 8)) s.heap.objs.size f cdv)).units + 66 < cLine := by have := hr.room.un; omega
  have nd := sc_law_cell_at.nd
  have tks : Takes (bodyX P w K mg base ["_law_script", "_law_k"] "_law_cell_at" (defScope (HeadX.top 8)) f cdv A outer s H E) (WB E) := takes_of rfl rfl rfl rfl
  have tk := lets_of tks
  have po : PassesOwn (model P w) (bodyX P w K mg base ["_law_script", "_law_k"] "_law_cell_at" (defScope (HeadX.top 8)) f cdv A outer s H E).A (bodyX P w K mg base ["_law_script", "_law_k"] "_law_cell_at" (defScope (HeadX.top 8)) f cdv A outer s H E).env (bodyX P w K mg base ["_law_script", "_law_k"] "_law_cell_at" (defScope (HeadX.top 8)) f cdv A outer s H E).xe := passes_of rfl
  unfold b_law_cell_at
  exact (sndb_cons (snds_if (sndt_cmp gLt_ok (snd_var (i := 1) rfl (by first | exact .inl rfl | exact .inr (.inl rfl) | exact .inr (.inr rfl))) (snd_callB gLen_ok rfl fx.n_len bt_len (snda_cons (snd_var (i := 0) rfl (by first | exact .inl rfl | exact .inr (.inl rfl) | exact .inr (.inr rfl))) snda_nil rfl)) rfl) (sndb_one (snds_ret (snd_ix (gIx_ok hu1) (snd_var (i := 0) rfl (by first | exact .inl rfl | exact .inr (.inl rfl) | exact .inr (.inr rfl))) (snd_var (i := 1) rfl (by first | exact .inl rfl | exact .inr (.inl rfl) | exact .inr (.inr rfl))) (fun _ _ => rfl)))) sndb_nil) (sndb_one (snds_ret snd_int)))
theorem fn_law_cell_at (fx : Fx K mg) : CalD P w K mg base (ca K) (0 + 1) "_law_cell_at" 2 (runS 2 b_law_cell_at) := by
  obtain ⟨f, fd, Fn, hm⟩ := fx.d_law_cell_at
  exact CalD.mk' (fv_law_cell_at fx Fn) hm Fn.kp (Fn.bindsN fun _ _ _ _ _ _ us hl => match us, hl with | [_, _], _ => rfl)
theorem cal_law_cell_at (fx : Fx K mg) : CalD P w K mg base (ca K) 1 "_law_cell_at" 2 F_law_cell_at := fn_law_cell_at fx
theorem sc_law_mixed : FnScope ["_law_script", "_law_k"] ["_law_script", "_law_k"] (defScope (HeadX.top 9)) := ⟨rfl, rfl, rfl, by decide +kernel, rfl, by decide +kernel, by decide +kernel⟩
theorem fv_law_mixed (fx : Fx K mg) {f : Addr} {fd : FuncData} (Fn : FunD K "_law_mixed" "_law_mixed" (defArgs (HeadX.top 9)) (defBody (HeadX.top 9)) (defScope (HeadX.top 9)) [] [] f fd) : FnV P w K mg base (1 + 1) f fd ["_law_script", "_law_k"] (spD K (ca K) 2 (runS 2 b_law_mixed)) := by
  refine fnv_of (P := P) (w := w) (K := K) (mg := mg) (base := base) (ca := ca K) (k := 1) (N := ["_law_script", "_law_k"]) (ps := ["_law_script", "_law_k"]) (fS := b_law_mixed) Fn sc_law_mixed ?_
  intro cdv A outer s H E hr
  have hu : (A.deeper (envOfC "_law_mixed" (defScope (HeadX.top 9)) s.heap.objs.size f cdv)).units + 64 < cLine := by have := hr.room.un; omega
  have hu1 : (A.deeper (envOfC "_law_mixed" (defScope (HeadX.top 9)) s.heap.objs.size f cdv)).units + 1 < cLine := by omega
  have hu2 : (A.deeper (envOfC "_law_mixed" (defScope (HeadX.top 9)) s.heap.objs.size f cdv)).units + 66 < cLine := by have := hr.room.un; omega
  have nd := sc_law_mixed.nd
  have tks : Takes (bodyX P w K mg base ["_law_script", "_law_k"] "_law_mixed" (defScope (HeadX.top 9)) f cdv A outer s H E) (WB E) := takes_of rfl rfl rfl rfl
  have tk := lets_of tks
  have po : PassesOwn (model P w) (bodyX P w K mg base ["_law_script", "_law_k"] "_law_mixed" (defScope (HeadX.top 9)) f cdv A outer s H E).A (bodyX P w K mg base ["_law_script", "_law_k"] "_law_mixed" (defScope (HeadX.top 9)) f cdv A outer s H E).env (bodyX P w K mg base ["_law_script", "_law_k"] "_law_mixed" (defScope (HeadX.top 9)) f cdv A outer s H E).xe := passes_of rfl
  unfold b_law_mixed
  exact (sndb_one (snds_ret (snd_bin gMod_ok (snd_bin gPlus_ok (snd_bin gPlus_ok (snd_bin gTimes_ok (snd_call ((cal_law_cell_at fx).up (by omega)).c hr tk rfl (snda_cons (snd_var (i := 0) rfl (by first | exact .inl rfl | exact .inr (.inl rfl) | exact .inr (.inr rfl))) (snda_cons (snd_bin gPlus_ok snd_int (snd_bin gMod_ok (snd_var (i := 1) rfl (by first | exact .inl rfl | exact .inr (.inl rfl) | exact .inr (.inr rfl))) snd_int)) snda_nil rfl) rfl)) snd_int) (snd_bin gTimes_ok snd_int (snd_var (i := 1) rfl (by first | exact .inl rfl | exact .inr (.inl rfl) | exact .inr (.inr rfl))))) snd_int) snd_int)))
theorem fn_law_mixed (fx : Fx K mg) : CalD P w K mg base (ca K) (1 + 1) "_law_mixed" 2 (runS 2 b_law_mixed) := by
  obtain ⟨f, fd, Fn, hm⟩ := fx.d_law_mixed
  exact CalD.mk' (fv_law_mixed fx Fn) hm Fn.kp (Fn.bindsN fun _ _ _ _ _ _ us hl => match us, hl with | [_, _], _ => rfl)
theorem cal_law_mixed (fx : Fx K mg) : CalD P w K mg base (ca K) 2 "_law_mixed" 2 F_law_mixed := fn_law_mixed fx
theorem sc_law_name : FnScope ["_law_cell", "_law_k", "_law_letters", "_law_size", "_law_signs", "_law_j"] ["_law_cell", "_law_k"] (defScope (HeadX.top 10)) := ⟨rfl, rfl, rfl, by decide +kernel, rfl, by decide +kernel, by decide +kernel⟩
theorem fv_law_name (fx : Fx K mg) {f : Addr} {fd : FuncData} (Fn : FunD K "_law_name" "_law_name" (defArgs (HeadX.top 10)) (defBody (HeadX.top 10)) (defScope (HeadX.top 10)) [] [] f fd) : FnV P w K mg base (0 + 1) f fd ["_law_cell", "_law_k"] (spD K (ca K) 2 (runS 6 b_law_name)) := by
  refine fnv_of (P := P) (w := w) (K := K) (mg := mg) (base := base) (ca := ca K) (k := 0) (N := ["_law_cell", "_law_k", "_law_letters", "_law_size", "_law_signs", "_law_j"]) (ps := ["_law_cell", "_law_k"]) (fS := b_law_name) Fn sc_law_name ?_
  intro cdv A outer s H E hr
  have hu : (A.deeper (envOfC "_law_name" (defScope (HeadX.top 10)) s.heap.objs.size f cdv)).units + 64 < cLine := by have := hr.room.un; omega
  have hu1 : (A.deeper (envOfC "_law_name" (defScope (HeadX.top 10)) s.heap.objs.size f cdv)).units + 1 < cLine := by omega
  have hu2 : (A.deeper (envOfC "_law_name" (defScope (HeadX.top 10)) s.heap.objs.size f cdv)).units + 66 < cLine := by have := hr.room.un; omega
  have nd := sc_law_name.nd
  have tks : Takes (bodyX P w K mg base ["_law_cell", "_law_k", "_law_letters", "_law_size", "_law_signs", "_law_j"] "_law_name" (defScope (HeadX.top 10)) f cdv A outer s H E) (WB E) := takes_of rfl rfl rfl rfl
  have tk := lets_of tks
  have po : PassesOwn (model P w) (bodyX P w K mg base ["_law_cell", "_law_k", "_law_letters", "_law_size", "_law_signs", "_law_j"] "_law_name" (defScope (HeadX.top 10)) f cdv A outer s H E).A (bodyX P w K mg base ["_law_cell", "_law_k", "_law_letters", "_law_size", "_law_signs", "_law_j"] "_law_name" (defScope (HeadX.top 10)) f cdv A outer s H E).env (bodyX P w K mg base ["_law_cell", "_law_k", "_law_letters", "_law_size", "_law_signs", "_law_j"] "_law_name" (defScope (HeadX.top 10)) f cdv A outer s H E).xe := passes_of rfl
  unfold b_law_name
  exact (sndb_cons (snds_asg (i := 2) nd rfl (by first | exact .inl rfl | exact .inr rfl) snd_str) (sndb_cons (snds_asg (i := 3) nd rfl (by first | exact .inl rfl | exact .inr rfl) (snd_bin gPlus_ok snd_int (snd_bin gMod_ok (snd_var (i := 0) rfl (by first | exact .inl rfl | exact .inr (.inl rfl) | exact .inr (.inr rfl))) snd_int))) (sndb_cons (snds_asgLc (i := 4) (own := [("_law_j", 5)]) rfl rfl tks rfl nd rfl rfl rfl (by decide) (sndi_range snd_int rfl fx.n_range) (blkok_of (N := ["_law_cell", "_law_k", "_law_letters", "_law_size", "_law_signs", "_law_j"]) (sc := defScope (HeadX.top 10)) (by decide +kernel)) (fun s H C cl fp E => (sndg_name nd rfl (by first | exact .inl rfl | exact .inr rfl))) (fun s H C cl fp E W tk => sndts_nil) (fun s H C cl fp E W tk => (snd_ix (gIx_ok hu1) (snd_var (i := 2) rfl (by first | exact .inl rfl | exact .inr (.inl rfl) | exact .inr (.inr rfl))) (snd_bin gMod_ok (snd_bin gPlus_ok (snd_bin gDiv_ok (snd_var (i := 0) rfl (by first | exact .inl rfl | exact .inr (.inl rfl) | exact .inr (.inr rfl))) snd_int) (snd_bin gTimes_ok snd_int (snd_var (i := 5) rfl (by first | exact .inl rfl | exact .inr (.inl rfl) | exact .inr (.inr rfl))))) snd_int) (fun _ _ => rfl)))) (sndb_cons (snds_if (sndt_cmp (gEq_ok hu) (snd_bin gMod_ok (snd_bin gDiv_ok (snd_var (i := 0) rfl (by first | exact .inl rfl | exact .inr (.inl rfl) | exact .inr (.inr rfl))) snd_int) snd_int) snd_int rfl) (sndb_cons (snds_put (i := 4) hu1 rfl (by first | exact .inl rfl | exact .inr (.inl rfl) | exact .inr (.inr rfl)) snd_int (snd_ix (gIx_ok hu1) (snd_var (i := 2) rfl (by first | exact .inl rfl | exact .inr (.inl rfl) | exact .inr (.inr rfl))) (snd_bin gMod_ok (snd_bin gPlus_ok (snd_bin gDiv_ok (snd_var (i := 0) rfl (by first | exact .inl rfl | exact .inr (.inl rfl) | exact .inr (.inr rfl))) snd_int) (snd_bin gDiv_ok (snd_var (i := 1) rfl (by first | exact .inl rfl | exact .inr (.inl rfl) | exact .inr (.inr rfl))) snd_int)) snd_int) (fun _ _ => rfl))) (sndb_one (snds_ret (snd_join snd_str (snd_sl (snd_var (i := 4) rfl (by first | exact .inl rfl | exact .inr (.inl rfl) | exact .inr (.inr rfl))) sndo_none (sndo_some (snd_bin gPlus_ok snd_int (snd_bin gMod_ok (snd_var (i := 1) rfl (by first | exact .inl rfl | exact .inr (.inl rfl) | exact .inr (.inr rfl))) snd_int)))))))) sndb_nil) (sndb_cons (snds_put (i := 4) hu1 rfl (by first | exact .inl rfl | exact .inr (.inl rfl) | exact .inr (.inr rfl)) (snd_bin gMod_ok (snd_bin gDiv_ok (snd_var (i := 0) rfl (by first | exact .inl rfl | exact .inr (.inl rfl) | exact .inr (.inr rfl))) snd_int) (snd_var (i := 3) rfl (by first | exact .inl rfl | exact .inr (.inl rfl) | exact .inr (.inr rfl)))) (snd_ix (gIx_ok hu1) (snd_var (i := 2) rfl (by first | exact .inl rfl | exact .inr (.inl rfl) | exact .inr (.inr rfl))) (snd_bin gMod_ok (snd_bin gPlus_ok (snd_bin gPlus_ok (snd_bin gDiv_ok (snd_var (i := 0) rfl (by first | exact .inl rfl | exact .inr (.inl rfl) | exact .inr (.inr rfl))) snd_int) snd_int) (snd_var (i := 1) rfl (by first | exact .inl rfl | exact .inr (.inl rfl) | exact .inr (.inr rfl)))) snd_int) (fun _ _ => rfl))) (sndb_one (snds_ret (snd_join snd_str (snd_sl (snd_var (i := 4) rfl (by first | exact .inl rfl | exact .inr (.inl rfl) | exact .inr (.inr rfl))) sndo_none (sndo_some (snd_var (i := 3) rfl (by first | exact .inl rfl | exact .inr (.inl rfl) | exact .inr (.inr rfl)))))))))))))
theorem fn_law_name (fx : Fx K mg) : CalD P w K mg base (ca K) (0 + 1) "_law_name" 2 (runS 6 b_law_name) := by
  obtain ⟨f, fd, Fn, hm⟩ := fx.d_law_name
  exact CalD.mk' (fv_law_name fx Fn) hm Fn.kp (Fn.bindsN fun _ _ _ _ _ _ us hl => match us, hl with | [_, _], _ => rfl)
theorem cal_law_name (fx : Fx K mg) : CalD P w K mg base (ca K) 1 "_law_name" 2 F_law_name := fn_law_name fx
theorem sc_law_names : FnScope ["_law_script", "_law_k"] ["_law_script"] (defScope (HeadX.top 11)) := ⟨rfl, rfl, rfl, by decide +kernel, rfl, by decide +kernel, by decide +kernel⟩
theorem fv_law_names (fx : Fx K mg) {f : Addr} {fd : FuncData} (Fn : FunD K "_law_names" "_law_names" (defArgs (HeadX.top 11)) (defBody (HeadX.top 11)) (defScope (HeadX.top 11)) [] [] f fd) : FnV P w K mg base (1 + 1) f fd ["_law_script"] (spD K (ca K) 1 (runS 2 b_law_names)) := by
  refine fnv_of (P := P) (w := w) (K := K) (mg := mg) (base := base) (ca := ca K) (k := 1) (N := ["_law_script", "_law_k"]) (ps := ["_law_script"]) (fS := b_law_names) Fn sc_law_names ?_
  intro cdv A outer s H E hr
  have hu : (A.deeper (envOfC "_law_names" (defScope (HeadX.top 11)) s.heap.objs.size f cdv)).units + 64 < cLine := by have := hr.room.un; omega
  have hu1 : (A.deeper (envOfC "_law_names" (defScope (HeadX.top 11)) s.heap.objs.size f cdv)).units + 1 < cLine := by omega
  have hu2 : (A.deeper (envOfC "_law_names" (defScope (HeadX.top 11)) s.heap.objs.size f cdv)).units + 66 < cLine := by have := hr.room.un; omega
  have nd := sc_law_names.nd
  have tks : Takes (bodyX P w K mg base ["_law_script", "_law_k"] "_law_names" (defScope (HeadX.top 11)) f cdv A outer s H E) (WB E) := takes_of rfl rfl rfl rfl
  have tk := lets_of tks
  have po : PassesOwn (model P w) (bodyX P w K mg base ["_law_script", "_law_k"] "_law_names" (defScope (HeadX.top 11)) f cdv A outer s H E).A (bodyX P w K mg base ["_law_script", "_law_k"] "_law_names" (defScope (HeadX.top 11)) f cdv A outer s H E).env (bodyX P w K mg base ["_law_script", "_law_k"] "_law_names" (defScope (HeadX.top 11)) f cdv A outer s H E).xe := passes_of rfl
  unfold b_law_names
  exact (sndb_one (snds_ret (snd_lc (own := [("_law_k", 1)]) rfl rfl tks rfl nd (by decide) (sndi_range snd_int rfl fx.n_range) (blkok_of (N := ["_law_script", "_law_k"]) (sc := defScope (HeadX.top 11)) (by decide +kernel)) (fun s H C cl fp E => (sndg_name nd rfl (by first | exact .inl rfl | exact .inr rfl))) (fun s H C cl fp E W tk => sndts_nil) (fun s H C cl fp E W tk => (snd_call ((cal_law_name fx).up (by omega)).c hr tk rfl (snda_cons (snd_dat (snd_call ((cal_law_cell_at fx).up (by omega)).c hr tk rfl (snda_cons (snd_var (i := 0) rfl (by first | exact .inl rfl | exact .inr (.inl rfl) | exact .inr (.inr rfl))) (snda_cons snd_int snda_nil rfl) rfl))) (snda_cons (snd_var (i := 1) rfl (by first | exact .inl rfl | exact .inr (.inl rfl) | exact .inr (.inr rfl))) snda_nil rfl) rfl))))))
theorem fn_law_names (fx : Fx K mg) : CalD P w K mg base (ca K) (1 + 1) "_law_names" 1 (runS 2 b_law_names) := by
  obtain ⟨f, fd, Fn, hm⟩ := fx.d_law_names
  exact CalD.mk' (fv_law_names fx Fn) hm Fn.kp (Fn.bindsN fun _ _ _ _ _ _ us hl => match us, hl with | [_], _ => rfl)
theorem cal_law_names (fx : Fx K mg) : CalD P w K mg base (ca K) 2 "_law_names" 1 F_law_names := fn_law_names fx
theorem sc_law_number : FnScope ["_law_cell"] ["_law_cell"] (defScope (HeadX.top 12)) := ⟨rfl, rfl, rfl, by decide +kernel, rfl, by decide +kernel, by decide +kernel⟩
theorem fv_law_number (fx : Fx K mg) {f : Addr} {fd : FuncData} (Fn : FunD K "_law_number" "_law_number" (defArgs (HeadX.top 12)) (defBody (HeadX.top 12)) (defScope (HeadX.top 12)) [] [] f fd) : FnV P w K mg base (0 + 1) f fd ["_law_cell"] (spD K (ca K) 1 (runS 1 b_law_number)) := by
  refine fnv_of (P := P) (w := w) (K := K) (mg := mg) (base := base) (ca := ca K) (k := 0) (N := ["_law_cell"]) (ps := ["_law_cell"]) (fS := b_law_number) Fn sc_law_number ?_
  intro cdv A outer s H E hr
  have hu : (A.deeper (envOfC "_law_number" (defScope (HeadX.top 12)) s.heap.objs.size f cdv)).units + 64 < cLine := by have := hr.room.un; omega
  have hu1 : (A.deeper (envOfC "_law_number" (defScope (HeadX.top 12)) s.heap.objs.size f cdv)).units + 1 < cLine := by omega
  have hu2 : (A.deeper (envOfC "_law_number" (defScope (HeadX.top 12)) s.heap.objs.size f cdv)).units + 66 < cLine := by have := hr.room.un; omega
  have nd := sc_law_number.nd
  have tks : Takes (bodyX P w K mg base ["_law_cell"] "_law_number" (defScope (HeadX.top 12)) f cdv A outer s H E) (WB E) := takes_of rfl rfl rfl rfl
  have tk := lets_of tks
  have po : PassesOwn (model P w) (bodyX P w K mg base ["_law_cell"] "_law_number" (defScope (HeadX.top 12)) f cdv A outer s H E).A (bodyX P w K mg base ["_law_cell"] "_law_number" (defScope (HeadX.top 12)) f cdv A outer s H E).env (bodyX P w K mg base ["_law_cell"] "_law_number" (defScope (HeadX.top 12)) f cdv A outer s H E).xe := passes_of rfl
  unfold b_law_number
  exact (sndb_cons (snds_if (sndt_cmp (gEq_ok hu) (snd_bin gMod_ok (snd_var (i := 0) rfl (by first | exact .inl rfl | exact .inr (.inl rfl) | exact .inr (.inr rfl))) snd_int) snd_int rfl) (sndb_one (snds_ret (snd_bin gPlus_ok (snd_ix (gIx_ok hu1) (snd_lst (snda_cons (snd_bin gPow_ok snd_int snd_int) (snda_cons (snd_neg (snd_bin gPow_ok snd_int snd_int)) (snda_cons (snd_bin gPow_ok snd_int snd_int) (snda_cons snd_int snda_nil rfl) rfl) rfl) rfl)) (snd_bin gMod_ok (snd_bin gDiv_ok (snd_var (i := 0) rfl (by first | exact .inl rfl | exact .inr (.inl rfl) | exact .inr (.inr rfl))) snd_int) snd_int) (fun _ _ => rfl)) (snd_bin gMod_ok (snd_bin gDiv_ok (snd_var (i := 0) rfl (by first | exact .inl rfl | exact .inr (.inl rfl) | exact .inr (.inr rfl))) snd_int) snd_int)))) sndb_nil) (sndb_cons (snds_if (sndt_cmp (gEq_ok hu) (snd_bin gMod_ok (snd_var (i := 0) rfl (by first | exact .inl rfl | exact .inr (.inl rfl) | exact .inr (.inr rfl))) snd_int) snd_int rfl) (sndb_one (snds_ret (snd_bin gSub_ok (snd_bin gMod_ok (snd_bin gTimes_ok (snd_bin gDiv_ok (snd_var (i := 0) rfl (by first | exact .inl rfl | exact .inr (.inl rfl) | exact .inr (.inr rfl))) snd_int) snd_int) snd_int) snd_int))) sndb_nil) (sndb_cons (snds_if (sndt_cmp (gEq_ok hu) (snd_bin gMod_ok (snd_var (i := 0) rfl (by first | exact .inl rfl | exact .inr (.inl rfl) | exact .inr (.inr rfl))) snd_int) snd_int rfl) (sndb_one (snds_ret (snd_bin gTimes_ok (snd_callTy gInt_ok rfl fx.n_int bt_int (snda_cons (snd_bin gTimes_ok snd_str (snd_bin gPlus_ok snd_int (snd_bin gMod_ok (snd_bin gDiv_ok (snd_var (i := 0) rfl (by first | exact .inl rfl | exact .inr (.inl rfl) | exact .inr (.inr rfl))) snd_int) snd_int))) snda_nil rfl)) (snd_bin gSub_ok snd_int (snd_bin gTimes_ok (snd_bin gMod_ok (snd_bin gDiv_ok (snd_var (i := 0) rfl (by first | exact .inl rfl | exact .inr (.inl rfl) | exact .inr (.inr rfl))) snd_int) snd_int) snd_int))))) sndb_nil) (sndb_one (snds_ret (snd_bin gSub_ok (snd_bin gMod_ok (snd_bin gDiv_ok (snd_var (i := 0) rfl (by first | exact .inl rfl | exact .inr (.inl rfl) | exact .inr (.inr rfl))) snd_int) snd_int) snd_int))))))
theorem fn_law_number (fx : Fx K mg) : CalD P w K mg base (ca K) (0 + 1) "_law_number" 1 (runS 1 b_law_number) := by
  obtain ⟨f, fd, Fn, hm⟩ := fx.d_law_number
  exact CalD.mk' (fv_law_number fx Fn) hm Fn.kp (Fn.bindsN fun _ _ _ _ _ _ us hl => match us, hl with | [_], _ => rfl)
theorem cal_law_number (fx : Fx K mg) : CalD P w K mg base (ca K) 1 "_law_number" 1 F_law_number := fn_law_number fx
theorem sc_law_table : FnScope ["_law_script", "_law_k", "_law_names_here", "_law_fields", "_law_found", "_law_j", "_law_row", "_law_i", "_law_field", "_law_cell"] ["_law_script", "_law_k", "_law_names_here", "_law_fields"] (defScope (HeadX.top 13)) := ⟨rfl, rfl, rfl, by decide +kernel, rfl, by decide +kernel, by decide +kernel⟩
theorem fv_law_table (fx : Fx K mg) {f : Addr} {fd : FuncData} (Fn : FunD K "_law_table" "_law_table" (defArgs (HeadX.top 13)) (defBody (HeadX.top 13)) (defScope (HeadX.top 13)) [] [] f fd) : FnV P w K mg base (2 + 1) f fd ["_law_script", "_law_k", "_law_names_here", "_law_fields"] (spD K (ca K) 4 (runS 10 b_law_table)) := by
  refine fnv_of (P := P) (w := w) (K := K) (mg := mg) (base := base) (ca := ca K) (k := 2) (N := ["_law_script", "_law_k", "_law_names_here", "_law_fields", "_law_found", "_law_j", "_law_row", "_law_i", "_law_field", "_law_cell"]) (ps := ["_law_script", "_law_k", "_law_names_here", "_law_fields"]) (fS := b_law_table) Fn sc_law_table ?_
  intro cdv A outer s H E hr
  have hu : (A.deeper (envOfC "_law_table" (defScope (HeadX.top 13)) s.heap.objs.size f cdv)).units + 64 < cLine := by have := hr.room.un; omega
  have hu1 : (A.deeper (envOfC "_law_table" (defScope (HeadX.top 13)) s.heap.objs.size f cdv)).units + 1 < cLine := by omega
  have hu2 : (A.deeper (envOfC "_law_table" (defScope (HeadX.top 13)) s.heap.objs.size f cdv)).units + 66 < cLine := by have := hr.room.un; omega
  have nd := sc_law_table.nd
  have tks : Takes (bodyX P w K mg base ["_law_script", "_law_k", "_law_names_here", "_law_fields", "_law_found", "_law_j", "_law_row", "_law_i", "_law_field", "_law_cell"] "_law_table" (defScope (HeadX.top 13)) f cdv A outer s H E) (WB E) := takes_of rfl rfl rfl rfl
  have tk := lets_of tks
  have po : PassesOwn (model P w) (bodyX P w K mg base ["_law_script", "_law_k", "_law_names_here", "_law_fields", "_law_found", "_law_j", "_law_row", "_law_i", "_law_field", "_law_cell"] "_law_table" (defScope (HeadX.top 13)) f cdv A outer s H E).A (bodyX P w K mg base ["_law_script", "_law_k", "_law_names_here", "_law_fields", "_law_found", "_law_j", "_law_row", "_law_i", "_law_field", "_law_cell"] "_law_table" (defScope (HeadX.top 13)) f cdv A outer s H E).env (bodyX P w K mg base ["_law_script", "_law_k", "_law_names_here", "_law_fields", "_law_found", "_law_j", "_law_row", "_law_i", "_law_field", "_law_cell"] "_law_table" (defScope (HeadX.top 13)) f cdv A outer s H E).xe := passes_of rfl
  unfold b_law_table
  exact (sndb_cons (snds_asg (i := 4) nd rfl (by first | exact .inl rfl | exact .inr rfl) snd_newD) (sndb_cons (snds_for po rfl (sndi_range snd_int rfl fx.n_range) (sndg_name nd rfl (by first | exact .inl rfl | exact .inr rfl)) (sndb_one (snds_if (sndt_cmp gGt_ok (snd_bin gMod_ok (snd_call ((cal_law_mixed fx).up (by omega)).c hr tk rfl (snda_cons (snd_var (i := 0) rfl (by first | exact .inl rfl | exact .inr (.inl rfl) | exact .inr (.inr rfl))) (snda_cons (snd_bin gPlus_ok (snd_var (i := 1) rfl (by first | exact .inl rfl | exact .inr (.inl rfl) | exact .inr (.inr rfl))) (snd_bin gTimes_ok snd_int (snd_var (i := 5) rfl (by first | exact .inl rfl | exact .inr (.inl rfl) | exact .inr (.inr rfl))))) snda_nil rfl) rfl)) snd_int) snd_int rfl) (sndb_cons (snds_asg (i := 6) nd rfl (by first | exact .inl rfl | exact .inr rfl) snd_newD) (sndb_cons (snds_for po rfl (sndi_enum (snd_var (i := 3) rfl (by first | exact .inl rfl | exact .inr (.inl rfl) | exact .inr (.inr rfl))) rfl fx.n_enumerate) (sndg_tup rfl nd (.cons rfl (by first | exact .inl rfl | exact .inr rfl) (by first | exact .inl rfl | exact .inr rfl) rfl (.cons rfl (by first | exact .inl rfl | exact .inr rfl) (by first | exact .inl rfl | exact .inr rfl) rfl .nil)) rfl) (sndb_cons (snds_asg (i := 9) nd rfl (by first | exact .inl rfl | exact .inr rfl) (snd_call ((cal_law_mixed fx).up (by omega)).c hr tk rfl (snda_cons (snd_var (i := 0) rfl (by first | exact .inl rfl | exact .inr (.inl rfl) | exact .inr (.inr rfl))) (snda_cons (snd_bin gPlus_ok (snd_bin gPlus_ok (snd_bin gPlus_ok (snd_var (i := 1) rfl (by first | exact .inl rfl | exact .inr (.inl rfl) | exact .inr (.inr rfl))) (snd_bin gTimes_ok snd_int (snd_var (i := 5) rfl (by first | exact .inl rfl | exact .inr (.inl rfl) | exact .inr (.inr rfl))))) (snd_var (i := 7) rfl (by first | exact .inl rfl | exact .inr (.inl rfl) | exact .inr (.inr rfl)))) snd_int) snda_nil rfl) rfl))) (sndb_one (snds_if (sndt_cmp gGt_ok (snd_bin gMod_ok (snd_var (i := 9) rfl (by first | exact .inl rfl | exact .inr (.inl rfl) | exact .inr (.inr rfl))) snd_int) snd_int rfl) (sndb_one (snds_put (i := 6) hu1 rfl (by first | exact .inl rfl | exact .inr (.inl rfl) | exact .inr (.inr rfl)) (snd_var (i := 8) rfl (by first | exact .inl rfl | exact .inr (.inl rfl) | exact .inr (.inr rfl))) (snd_call ((cal_law_number fx).up (by omega)).c hr tk rfl (snda_cons (snd_bin gDiv_ok (snd_var (i := 9) rfl (by first | exact .inl rfl | exact .inr (.inl rfl) | exact .inr (.inr rfl))) snd_int) snda_nil rfl)))) (sndb_one (snds_if (sndt_cmp (gEq_ok hu) (snd_bin gMod_ok (snd_var (i := 9) rfl (by first | exact .inl rfl | exact .inr (.inl rfl) | exact .inr (.inr rfl))) snd_int) snd_int rfl) (sndb_one (snds_put (i := 6) hu1 rfl (by first | exact .inl rfl | exact .inr (.inl rfl) | exact .inr (.inr rfl)) (snd_var (i := 8) rfl (by first | exact .inl rfl | exact .inr (.inl rfl) | exact .inr (.inr rfl))) (snd_disp (.cons (snd_ix (gIx_ok hu1) (snd_var (i := 2) rfl (by first | exact .inl rfl | exact .inr (.inl rfl) | exact .inr (.inr rfl))) snd_int (fun _ _ => rfl)) (snd_bin gMod_ok (snd_bin gDiv_ok (snd_var (i := 9) rfl (by first | exact .inl rfl | exact .inr (.inl rfl) | exact .inr (.inr rfl))) snd_int) snd_int) .nil) rfl rfl (by simp) (by decide)))) sndb_nil)))))) (sndb_one (snds_frz 6 (snds_put (i := 4) hu1 rfl (by first | exact .inl rfl | exact .inr (.inl rfl) | exact .inr (.inr rfl)) (snd_ix (gIx_ok hu1) (snd_var (i := 2) rfl (by first | exact .inl rfl | exact .inr (.inl rfl) | exact .inr (.inr rfl))) (snd_bin gPlus_ok snd_int (snd_var (i := 5) rfl (by first | exact .inl rfl | exact .inr (.inl rfl) | exact .inr (.inr rfl)))) (fun _ _ => rfl)) (snd_var (i := 6) rfl (by first | exact .inl rfl | exact .inr (.inl rfl) | exact .inr (.inr rfl)))))))) sndb_nil))) (sndb_one (snds_retV (i := 4) rfl (by first | exact .inl rfl | exact .inr (.inl rfl) | exact .inr (.inr rfl))))))
theorem fn_law_table (fx : Fx K mg) : CalD P w K mg base (ca K) (2 + 1) "_law_table" 4 (runS 10 b_law_table) := by
  obtain ⟨f, fd, Fn, hm⟩ := fx.d_law_table
  exact CalD.mk' (fv_law_table fx Fn) hm Fn.kp (Fn.bindsN fun _ _ _ _ _ _ us hl => match us, hl with | [_, _, _, _], _ => rfl)
theorem cal_law_table (fx : Fx K mg) : CalD P w K mg base (ca K) 3 "_law_table" 4 F_law_table := fn_law_table fx
theorem sc_law_house : FnScope ["_law_script", "_law_names_here", "_law_found", "_law_k"] ["_law_script", "_law_names_here"] (defScope (HeadX.top 14)) := ⟨rfl, rfl, rfl, by decide +kernel, rfl, by decide +kernel, by decide +kernel⟩
theorem fv_law_house (fx : Fx K mg) {f : Addr} {fd : FuncData} (Fn : FunD K "_law_house" "_law_house" (defArgs (HeadX.top 14)) (defBody (HeadX.top 14)) (defScope (HeadX.top 14)) [] [] f fd) : FnV P w K mg base (3 + 1) f fd ["_law_script", "_law_names_here"] (spD K (ca K) 2 (runS 4 b_law_house)) := by
  refine fnv_of (P := P) (w := w) (K := K) (mg := mg) (base := base) (ca := ca K) (k := 3) (N := ["_law_script", "_law_names_here", "_law_found", "_law_k"]) (ps := ["_law_script", "_law_names_here"]) (fS := b_law_house) Fn sc_law_house ?_
  intro cdv A outer s H E hr
  have hu : (A.deeper (envOfC "_law_house" (defScope (HeadX.top 14)) s.heap.objs.size f cdv)).units + 64 < cLine := by have := hr.room.un; omega
  have hu1 : (A.deeper (envOfC "_law_house" (defScope (HeadX.top 14)) s.heap.objs.size f cdv)).units + 1 < cLine := by omega
  have hu2 : (A.deeper (envOfC "_law_house" (defScope (HeadX.top 14)) s.heap.objs.size f cdv)).units + 66 < cLine := by have := hr.room.un; omega
  have nd := sc_law_house.nd
  have tks : Takes (bodyX P w K mg base ["_law_script", "_law_names_here", "_law_found", "_law_k"] "_law_house" (defScope (HeadX.top 14)) f cdv A outer s H E) (WB E) := takes_of rfl rfl rfl rfl
  have tk := lets_of tks
  have po : PassesOwn (model P w) (bodyX P w K mg base ["_law_script", "_law_names_here", "_law_found", "_law_k"] "_law_house" (defScope (HeadX.top 14)) f cdv A outer s H E).A (bodyX P w K mg base ["_law_script", "_law_names_here", "_law_found", "_law_k"] "_law_house" (defScope (HeadX.top 14)) f cdv A outer s H E).env (bodyX P w K mg base ["_law_script", "_law_names_here", "_law_found", "_law_k"] "_law_house" (defScope (HeadX.top 14)) f cdv A outer s H E).xe := passes_of rfl
  unfold b_law_house
  exact (sndb_cons (snds_asg (i := 2) nd rfl (by first | exact .inl rfl | exact .inr rfl) (snd_disp (.cons (snd_ix (gIx_ok hu1) (snd_var (i := 1) rfl (by first | exact .inl rfl | exact .inr (.inl rfl) | exact .inr (.inr rfl))) snd_int (fun _ _ => rfl)) (snd_dat (snd_call ((cal_law_number fx).up (by omega)).c hr tk rfl (snda_cons (snd_dat (snd_call ((cal_law_mixed fx).up (by omega)).c hr tk rfl (snda_cons (snd_var (i := 0) rfl (by first | exact .inl rfl | exact .inr (.inl rfl) | exact .inr (.inr rfl))) (snda_cons snd_int snda_nil rfl) rfl))) snda_nil rfl))) .nil) rfl rfl (by simp) (by decide))) (sndb_cons (snds_put (i := 2) hu1 rfl (by first | exact .inl rfl | exact .inr (.inl rfl) | exact .inr (.inr rfl)) (snd_ix (gIx_ok hu1) (snd_var (i := 1) rfl (by first | exact .inl rfl | exact .inr (.inl rfl) | exact .inr (.inr rfl))) snd_int (fun _ _ => rfl)) (snd_disp (.cons (snd_ix (gIx_ok hu1) (snd_var (i := 1) rfl (by first | exact .inl rfl | exact .inr (.inl rfl) | exact .inr (.inr rfl))) snd_int (fun _ _ => rfl)) (snd_dat (snd_call ((cal_law_number fx).up (by omega)).c hr tk rfl (snda_cons (snd_dat (snd_call ((cal_law_mixed fx).up (by omega)).c hr tk rfl (snda_cons (snd_var (i := 0) rfl (by first | exact .inl rfl | exact .inr (.inl rfl) | exact .inr (.inr rfl))) (snda_cons snd_int snda_nil rfl) rfl))) snda_nil rfl))) (.cons (snd_ix (gIx_ok hu1) (snd_var (i := 1) rfl (by first | exact .inl rfl | exact .inr (.inl rfl) | exact .inr (.inr rfl))) snd_int (fun _ _ => rfl)) (snd_dat (snd_disp (.cons (snd_ix (gIx_ok hu1) (snd_var (i := 1) rfl (by first | exact .inl rfl | exact .inr (.inl rfl) | exact .inr (.inr rfl))) snd_int (fun _ _ => rfl)) snd_int .nil) rfl rfl (by simp) (by decide))) .nil)) rfl rfl (by simp) (by decide))) (sndb_cons (snds_put (i := 2) hu1 rfl (by first | exact .inl rfl | exact .inr (.inl rfl) | exact .inr (.inr rfl)) (snd_ix (gIx_ok hu1) (snd_var (i := 1) rfl (by first | exact .inl rfl | exact .inr (.inl rfl) | exact .inr (.inr rfl))) snd_int (fun _ _ => rfl)) (snd_call ((cal_law_table fx).up (by omega)).c hr tk rfl (snda_cons (snd_var (i := 0) rfl (by first | exact .inl rfl | exact .inr (.inl rfl) | exact .inr (.inr rfl))) (snda_cons snd_int (snda_cons (snd_var (i := 1) rfl (by first | exact .inl rfl | exact .inr (.inl rfl) | exact .inr (.inr rfl))) (snda_cons (snd_dat (snd_sl (snd_var (i := 1) rfl (by first | exact .inl rfl | exact .inr (.inl rfl) | exact .inr (.inr rfl))) (sndo_some snd_int) (sndo_some snd_int))) snda_nil rfl) rfl) rfl) rfl))) (sndb_cons (snds_put (i := 2) hu1 rfl (by first | exact .inl rfl | exact .inr (.inl rfl) | exact .inr (.inr rfl)) (snd_ix (gIx_ok hu1) (snd_var (i := 1) rfl (by first | exact .inl rfl | exact .inr (.inl rfl) | exact .inr (.inr rfl))) snd_int (fun _ _ => rfl)) (snd_call ((cal_law_table fx).up (by omega)).c hr tk rfl (snda_cons (snd_var (i := 0) rfl (by first | exact .inl rfl | exact .inr (.inl rfl) | exact .inr (.inr rfl))) (snda_cons snd_int (snda_cons (snd_var (i := 1) rfl (by first | exact .inl rfl | exact .inr (.inl rfl) | exact .inr (.inr rfl))) (snda_cons (snd_dat (snd_sl (snd_var (i := 1) rfl (by first | exact .inl rfl | exact .inr (.inl rfl) | exact .inr (.inr rfl))) (sndo_some snd_int) (sndo_some snd_int))) snda_nil rfl) rfl) rfl) rfl))) (sndb_cons (snds_put (i := 2) hu1 rfl (by first | exact .inl rfl | exact .inr (.inl rfl) | exact .inr (.inr rfl)) (snd_ix (gIx_ok hu1) (snd_var (i := 1) rfl (by first | exact .inl rfl | exact .inr (.inl rfl) | exact .inr (.inr rfl))) snd_int (fun _ _ => rfl)) (snd_disp (.cons (snd_ix (gIx_ok hu1) (snd_var (i := 1) rfl (by first | exact .inl rfl | exact .inr (.inl rfl) | exact .inr (.inr rfl))) snd_int (fun _ _ => rfl)) (snd_dat (snd_call ((cal_law_table fx).up (by omega)).c hr tk rfl (snda_cons (snd_var (i := 0) rfl (by first | exact .inl rfl | exact .inr (.inl rfl) | exact .inr (.inr rfl))) (snda_cons snd_int (snda_cons (snd_var (i := 1) rfl (by first | exact .inl rfl | exact .inr (.inl rfl) | exact .inr (.inr rfl))) (snda_cons (snd_dat (snd_sl (snd_var (i := 1) rfl (by first | exact .inl rfl | exact .inr (.inl rfl) | exact .inr (.inr rfl))) (sndo_some snd_int) (sndo_some snd_int))) snda_nil rfl) rfl) rfl) rfl))) (.cons (snd_ix (gIx_ok hu1) (snd_var (i := 1) rfl (by first | exact .inl rfl | exact .inr (.inl rfl) | exact .inr (.inr rfl))) snd_int (fun _ _ => rfl)) snd_int .nil)) rfl rfl (by simp) (by decide))) (sndb_cons (snds_for po rfl (sndi_range snd_int rfl fx.n_range) (sndg_name nd rfl (by first | exact .inl rfl | exact .inr rfl)) (sndb_one (snds_if (sndt_cmp (gEq_ok hu) (snd_bin gMod_ok (snd_call ((cal_law_mixed fx).up (by omega)).c hr tk rfl (snda_cons (snd_var (i := 0) rfl (by first | exact .inl rfl | exact .inr (.inl rfl) | exact .inr (.inr rfl))) (snda_cons (snd_bin gPlus_ok snd_int (snd_var (i := 3) rfl (by first | exact .inl rfl | exact .inr (.inl rfl) | exact .inr (.inr rfl)))) snda_nil rfl) rfl)) snd_int) snd_int rfl) (sndb_one (snds_pop (i := 2) rfl (by first | exact .inl rfl | exact .inr (.inl rfl) | exact .inr (.inr rfl)) (snd_ix (gIx_ok hu1) (snd_var (i := 1) rfl (by first | exact .inl rfl | exact .inr (.inl rfl) | exact .inr (.inr rfl))) (snd_var (i := 3) rfl (by first | exact .inl rfl | exact .inr (.inl rfl) | exact .inr (.inr rfl))) (fun _ _ => rfl)) ⟨rfl, rfl, rfl, rfl⟩)) sndb_nil))) (sndb_one (snds_frz 2 (snds_ret (snd_ix (gIx_ok hu1) (snd_lst (snda_cons (snd_var (i := 2) rfl (by first | exact .inl rfl | exact .inr (.inl rfl) | exact .inr (.inr rfl))) (snda_cons (snd_get2 hu1 (snd_var (i := 2) rfl (by first | exact .inl rfl | exact .inr (.inl rfl) | exact .inr (.inr rfl))) (snd_ix (gIx_ok hu1) (snd_var (i := 1) rfl (by first | exact .inl rfl | exact .inr (.inl rfl) | exact .inr (.inr rfl))) snd_int (fun _ _ => rfl)) snd_newD ⟨rfl, rfl, rfl, rfl⟩) (snda_cons (snd_get2 hu1 (snd_var (i := 2) rfl (by first | exact .inl rfl | exact .inr (.inl rfl) | exact .inr (.inr rfl))) (snd_ix (gIx_ok hu1) (snd_var (i := 1) rfl (by first | exact .inl rfl | exact .inr (.inl rfl) | exact .inr (.inr rfl))) snd_int (fun _ _ => rfl)) snd_int ⟨rfl, rfl, rfl, rfl⟩) snda_nil rfl) rfl) rfl)) (snd_bin gMod_ok (snd_bin gMod_ok (snd_call ((cal_law_cell_at fx).up (by omega)).c hr tk rfl (snda_cons (snd_var (i := 0) rfl (by first | exact .inl rfl | exact .inr (.inl rfl) | exact .inr (.inr rfl))) (snda_cons snd_int snda_nil rfl) rfl)) snd_int) snd_int) (fun _ _ => rfl)))))))))))
theorem fn_law_house (fx : Fx K mg) : CalD P w K mg base (ca K) (3 + 1) "_law_house" 2 (runS 4 b_law_house) := by
  obtain ⟨f, fd, Fn, hm⟩ := fx.d_law_house
  exact CalD.mk' (fv_law_house fx Fn) hm Fn.kp (Fn.bindsN fun _ _ _ _ _ _ us hl => match us, hl with | [_, _], _ => rfl)
theorem cal_law_house (fx : Fx K mg) : CalD P w K mg base (ca K) 4 "_law_house" 2 F_law_house := fn_law_house fx
theorem sc_law_copy : FnScope ["_law_tree", "_law_name_here"] ["_law_tree"] (defScope (HeadX.top 15)) := ⟨rfl, rfl, rfl, by decide +kernel, rfl, by decide +kernel, by decide +kernel⟩
theorem fv_law_copy {k : Nat} {r__law_copy : List D → Out} (fx : Fx K mg) (hk : 0 ≤ k) (h__law_copy : CalD P w K mg base (ca K) k "_law_copy" 1 r__law_copy) {f : Addr} {fd : FuncData} (Fn : FunD K "_law_copy" "_law_copy" (defArgs (HeadX.top 15)) (defBody (HeadX.top 15)) (defScope (HeadX.top 15)) [] [] f fd) : FnV P w K mg base (k + 1) f fd ["_law_tree"] (spD K (ca K) 1 (runS 2 (b_law_copy r__law_copy))) := by
  refine fnv_of (P := P) (w := w) (K := K) (mg := mg) (base := base) (ca := ca K) (k := k) (N := ["_law_tree", "_law_name_here"]) (ps := ["_law_tree"]) (fS := (b_law_copy r__law_copy)) Fn sc_law_copy ?_
  intro cdv A outer s H E hr
  have hu : (A.deeper (envOfC "_law_copy" (defScope (HeadX.top 15)) s.heap.objs.size f cdv)).units + 64 < cLine := by have := hr.room.un; omega
  have hu1 : (A.deeper (envOfC "_law_copy" (defScope (HeadX.top 15)) s.heap.objs.size f cdv)).units + 1 < cLine := by omega
  have hu2 : (A.deeper (envOfC "_law_copy" (defScope (HeadX.top 15)) s.heap.objs.size f cdv)).units + 66 < cLine := by have := hr.room.un; omega
  have nd := sc_law_copy.nd
  have tks : Takes (bodyX P w K mg base ["_law_tree", "_law_name_here"] "_law_copy" (defScope (HeadX.top 15)) f cdv A outer s H E) (WB E) := takes_of rfl rfl rfl rfl
  have tk := lets_of tks
  have po : PassesOwn (model P w) (bodyX P w K mg base ["_law_tree", "_law_name_here"] "_law_copy" (defScope (HeadX.top 15)) f cdv A outer s H E).A (bodyX P w K mg base ["_law_tree", "_law_name_here"] "_law_copy" (defScope (HeadX.top 15)) f cdv A outer s H E).env (bodyX P w K mg base ["_law_tree", "_law_name_here"] "_law_copy" (defScope (HeadX.top 15)) f cdv A outer s H E).xe := passes_of rfl
  unfold b_law_copy
  exact (sndb_cons (snds_if (sndt_val (snd_isT (T := "dict") (by simp) (snd_var (i := 0) rfl (by first | exact .inl rfl | exact .inr (.inl rfl) | exact .inr (.inr rfl))) rfl fx.n_isinstance bt_isinstance rfl fx.n_dict bt_dict (by decide) (by decide) (by decide) (by decide) rfl rfl rfl) (fun _ => rfl)) (sndb_one (snds_ret (snd_callTy (gDict_ok rfl) rfl fx.n_dict bt_dict (snda_cons (snd_lc (own := [("_law_name_here", 1)]) rfl rfl tks rfl nd (by decide) (sndi_val (snd_var (i := 0) rfl (by first | exact .inl rfl | exact .inr (.inl rfl) | exact .inr (.inr rfl)))) (blkok_of (N := ["_law_tree", "_law_name_here"]) (sc := defScope (HeadX.top 15)) (by decide +kernel)) (fun s H C cl fp E => (sndg_name nd rfl (by first | exact .inl rfl | exact .inr rfl))) (fun s H C cl fp E W tk => sndts_nil) (fun s H C cl fp E W tk => (snd_tup (snda_cons (snd_var (i := 1) rfl (by first | exact .inl rfl | exact .inr (.inl rfl) | exact .inr (.inr rfl))) (snda_cons (snd_dat (snd_call (h__law_copy).c hr tk rfl (snda_cons (snd_ix (gIx_ok hu1) (snd_var (i := 0) rfl (by first | exact .inl rfl | exact .inr (.inl rfl) | exact .inr (.inr rfl))) (snd_var (i := 1) rfl (by first | exact .inl rfl | exact .inr (.inl rfl) | exact .inr (.inr rfl))) (fun _ _ => rfl)) snda_nil rfl))) snda_nil rfl) rfl)))) snda_nil rfl)))) sndb_nil) (sndb_one (snds_retV (i := 0) rfl (by first | exact .inl rfl | exact .inr (.inl rfl) | exact .inr (.inr rfl)))))
theorem fn_law_copy {k : Nat} {r__law_copy : List D → Out} (fx : Fx K mg) (hk : 0 ≤ k) (h__law_copy : CalD P w K mg base (ca K) k "_law_copy" 1 r__law_copy) : CalD P w K mg base (ca K) (k + 1) "_law_copy" 1 (runS 2 (b_law_copy r__law_copy)) := by
  obtain ⟨f, fd, Fn, hm⟩ := fx.d_law_copy
  exact CalD.mk' (fv_law_copy fx hk h__law_copy Fn) hm Fn.kp (Fn.bindsN fun _ _ _ _ _ _ us hl => match us, hl with | [_], _ => rfl)
theorem cal_law_copy (fx : Fx K mg) : ∀ n : Nat, CalD P w K mg base (ca K) (0 + n) "_law_copy" 1 (F_law_copy n)
  | 0 => by
    obtain ⟨f, fd, Fn, hm⟩ := fx.d_law_copy
    exact CalD.mk' (ps := ["_law_tree"]) (fnv_stuck rfl) hm Fn.kp (Fn.bindsN fun _ _ _ _ _ _ us hl => match us, hl with | [_], _ => rfl)
  | n + 1 => fn_law_copy fx (k := 0 + n) (by omega) (cal_law_copy fx n)
theorem sc_law_same : FnScope ["_law_found", "_law_due", "_law_name_here"] ["_law_found", "_law_due"] (defScope (HeadX.top 16)) := ⟨rfl, rfl, rfl, by decide +kernel, rfl, by decide +kernel, by decide +kernel⟩
theorem fv_law_same {k : Nat} {r__law_same : List D → Out} (fx : Fx K mg) (hk : 0 ≤ k) (h__law_same : CalD P w K mg base (ca K) k "_law_same" 2 r__law_same) {f : Addr} {fd : FuncData} (Fn : FunD K "_law_same" "_law_same" (defArgs (HeadX.top 16)) (defBody (HeadX.top 16)) (defScope (HeadX.top 16)) [] [] f fd) : FnV P w K mg base (k + 1) f fd ["_law_found", "_law_due"] (spD K (ca K) 2 (runS 3 (b_law_same r__law_same))) := by
  refine fnv_of (P := P) (w := w) (K := K) (mg := mg) (base := base) (ca := ca K) (k := k) (N := ["_law_found", "_law_due", "_law_name_here"]) (ps := ["_law_found", "_law_due"]) (fS := (b_law_same r__law_same)) Fn sc_law_same ?_
  intro cdv A outer s H E hr
  have hu : (A.deeper (envOfC "_law_same" (defScope (HeadX.top 16)) s.heap.objs.size f cdv)).units + 64 < cLine := by have := hr.room.un; omega
  have hu1 : (A.deeper (envOfC "_law_same" (defScope (HeadX.top 16)) s.heap.objs.size f cdv)).units + 1 < cLine := by omega
  have hu2 : (A.deeper (envOfC "_law_same" (defScope (HeadX.top 16)) s.heap.objs.size f cdv)).units + 66 < cLine := by have := hr.room.un; omega
  have nd := sc_law_same.nd
  have tks : Takes (bodyX P w K mg base ["_law_found", "_law_due", "_law_name_here"] "_law_same" (defScope (HeadX.top 16)) f cdv A outer s H E) (WB E) := takes_of rfl rfl rfl rfl
  have tk := lets_of tks
  have po : PassesOwn (model P w) (bodyX P w K mg base ["_law_found", "_law_due", "_law_name_here"] "_law_same" (defScope (HeadX.top 16)) f cdv A outer s H E).A (bodyX P w K mg base ["_law_found", "_law_due", "_law_name_here"] "_law_same" (defScope (HeadX.top 16)) f cdv A outer s H E).env (bodyX P w K mg base ["_law_found", "_law_due", "_law_name_here"] "_law_same" (defScope (HeadX.top 16)) f cdv A outer s H E).xe := passes_of rfl
  unfold b_law_same
  exact (sndb_cons (snds_if (sndt_val (snd_isT (T := "dict") (by simp) (snd_var (i := 1) rfl (by first | exact .inl rfl | exact .inr (.inl rfl) | exact .inr (.inr rfl))) rfl fx.n_isinstance bt_isinstance rfl fx.n_dict bt_dict (by decide) (by decide) (by decide) (by decide) rfl rfl rfl) (fun _ => rfl)) (sndb_cons (snds_if (sndw_t (sndw_or (sndt_not (sndt_val (snd_isT (T := "dict") (by simp) (snd_var (i := 0) rfl (by first | exact .inl rfl | exact .inr (.inl rfl) | exact .inr (.inr rfl))) rfl fx.n_isinstance bt_isinstance rfl fx.n_dict bt_dict (by decide) (by decide) (by decide) (by decide) rfl rfl rfl) (fun _ => rfl))) (sndw_or1 (sndt_cmp (gNe_ok hu) (snd_callB (gSorted_ok rfl) rfl fx.n_sorted bt_sorted (snda_cons (snd_callTy (gList_ok rfl) rfl fx.n_list bt_list (snda_cons (snd_var (i := 0) rfl (by first | exact .inl rfl | exact .inr (.inl rfl) | exact .inr (.inr rfl))) snda_nil rfl)) snda_nil rfl)) (snd_callB (gSorted_ok rfl) rfl fx.n_sorted bt_sorted (snda_cons (snd_callTy (gList_ok rfl) rfl fx.n_list bt_list (snda_cons (snd_var (i := 1) rfl (by first | exact .inl rfl | exact .inr (.inl rfl) | exact .inr (.inr rfl))) snda_nil rfl)) snda_nil rfl)) rfl)))) (sndb_one (snds_ret snd_bl)) sndb_nil) (sndb_one (snds_ret (snd_callB (gAll_ok rfl) rfl fx.n_all bt_all (snda_cons (snd_lc (own := [("_law_name_here", 2)]) rfl rfl tks rfl nd (by decide) (sndi_val (snd_var (i := 1) rfl (by first | exact .inl rfl | exact .inr (.inl rfl) | exact .inr (.inr rfl)))) (blkok_of (N := ["_law_found", "_law_due", "_law_name_here"]) (sc := defScope (HeadX.top 16)) (by decide +kernel)) (fun s H C cl fp E => (sndg_name nd rfl (by first | exact .inl rfl | exact .inr rfl))) (fun s H C cl fp E W tk => sndts_nil) (fun s H C cl fp E W tk => (snd_call (h__law_same).c hr tk rfl (snda_cons (snd_ix (gIx_ok hu1) (snd_var (i := 0) rfl (by first | exact .inl rfl | exact .inr (.inl rfl) | exact .inr (.inr rfl))) (snd_var (i := 2) rfl (by first | exact .inl rfl | exact .inr (.inl rfl) | exact .inr (.inr rfl))) (fun _ _ => rfl)) (snda_cons (snd_ix (gIx_ok hu1) (snd_var (i := 1) rfl (by first | exact .inl rfl | exact .inr (.inl rfl) | exact .inr (.inr rfl))) (snd_var (i := 2) rfl (by first | exact .inl rfl | exact .inr (.inl rfl) | exact .inr (.inr rfl))) (fun _ _ => rfl)) snda_nil rfl) rfl)))) snda_nil rfl))))) sndb_nil) (sndb_one (snds_ret (snd_and (snd_isT (T := "int") (by simp) (snd_var (i := 0) rfl (by first | exact .inl rfl | exact .inr (.inl rfl) | exact .inr (.inr rfl))) rfl fx.n_isinstance bt_isinstance rfl fx.n_int bt_int (by decide) (by decide) (by decide) (by decide) rfl rfl rfl) (snd_and (snd_not (snd_isT (T := "bool") (by simp) (snd_var (i := 0) rfl (by first | exact .inl rfl | exact .inr (.inl rfl) | exact .inr (.inr rfl))) rfl fx.n_isinstance bt_isinstance rfl fx.n_bool bt_bool (by decide) (by decide) (by decide) (by decide) rfl rfl rfl)) (snd_one (snd_cmp (gEq_ok hu) (snd_var (i := 0) rfl (by first | exact .inl rfl | exact .inr (.inl rfl) | exact .inr (.inr rfl))) (snd_var (i := 1) rfl (by first | exact .inl rfl | exact .inr (.inl rfl) | exact .inr (.inr rfl))) rfl)))))))
theorem fn_law_same {k : Nat} {r__law_same : List D → Out} (fx : Fx K mg) (hk : 0 ≤ k) (h__law_same : CalD P w K mg base (ca K) k "_law_same" 2 r__law_same) : CalD P w K mg base (ca K) (k + 1) "_law_same" 2 (runS 3 (b_law_same r__law_same)) := by
  obtain ⟨f, fd, Fn, hm⟩ := fx.d_law_same
  exact CalD.mk' (fv_law_same fx hk h__law_same Fn) hm Fn.kp (Fn.bindsN fun _ _ _ _ _ _ us hl => match us, hl with | [_, _], _ => rfl)
theorem cal_law_same (fx : Fx K mg) : ∀ n : Nat, CalD P w K mg base (ca K) (0 + n) "_law_same" 2 (F_law_same n)
  | 0 => by
    obtain ⟨f, fd, Fn, hm⟩ := fx.d_law_same
    exact CalD.mk' (ps := ["_law_found", "_law_due"]) (fnv_stuck rfl) hm Fn.kp (Fn.bindsN fun _ _ _ _ _ _ us hl => match us, hl with | [_, _], _ => rfl)
  | n + 1 => fn_law_same fx (k := 0 + n) (by omega) (cal_law_same fx n)
theorem sc_law_odd : FnScope ["_law_cell", "_law_name_here", "_law_some"] ["_law_cell", "_law_name_here"] (defScope (HeadX.top 17)) := ⟨rfl, rfl, rfl, by decide +kernel, rfl, by decide +kernel, by decide +kernel⟩
theorem fv_law_odd (fx : Fx K mg) {f : Addr} {fd : FuncData} (Fn : FunD K "_law_odd" "_law_odd" (defArgs (HeadX.top 17)) (defBody (HeadX.top 17)) (defScope (HeadX.top 17)) [] [] f fd) : FnV P w K mg base (0 + 1) f fd ["_law_cell", "_law_name_here"] (spD K (ca K) 2 (runS 3 b_law_odd)) := by
  refine fnv_of (P := P) (w := w) (K := K) (mg := mg) (base := base) (ca := ca K) (k := 0) (N := ["_law_cell", "_law_name_here", "_law_some"]) (ps := ["_law_cell", "_law_name_here"]) (fS := b_law_odd) Fn sc_law_odd ?_
  intro cdv A outer s H E hr
  have hu : (A.deeper (envOfC "_law_odd" (defScope (HeadX.top 17)) s.heap.objs.size f cdv)).units + 64 < cLine := by have := hr.room.un; omega
  have hu1 : (A.deeper (envOfC "_law_odd" (defScope (HeadX.top 17)) s.heap.objs.size f cdv)).units + 1 < cLine := by omega
  have hu2 : (A.deeper (envOfC "_law_odd" (defScope (HeadX.top 17)) s.heap.objs.size f cdv)).units + 66 < cLine := by have := hr.room.un; omega
  have nd := sc_law_odd.nd
  have tks : Takes (bodyX P w K mg base ["_law_cell", "_law_name_here", "_law_some"] "_law_odd" (defScope (HeadX.top 17)) f cdv A outer s H E) (WB E) := takes_of rfl rfl rfl rfl
  have tk := lets_of tks
  have po : PassesOwn (model P w) (bodyX P w K mg base ["_law_cell", "_law_name_here", "_law_some"] "_law_odd" (defScope (HeadX.top 17)) f cdv A outer s H E).A (bodyX P w K mg base ["_law_cell", "_law_name_here", "_law_some"] "_law_odd" (defScope (HeadX.top 17)) f cdv A outer s H E).env (bodyX P w K mg base ["_law_cell", "_law_name_here", "_law_some"] "_law_odd" (defScope (HeadX.top 17)) f cdv A outer s H E).xe := passes_of rfl
  unfold b_law_odd
  exact (sndb_cons (snds_asg (i := 2) nd rfl (by first | exact .inl rfl | exact .inr rfl) (snd_lst (snda_cons snd_bl (snda_cons snd_bl (snda_cons snd_non (snda_cons snd_str (snda_cons snd_str (snda_cons snd_int (snda_cons (snd_neg snd_int) (snda_cons (snd_bin gPow_ok snd_int snd_int) (snda_cons (snd_tup snda_nil) (snda_cons (snd_dat (snd_lst snda_nil)) (snda_cons (snd_dat (snd_disp (.cons snd_int snd_int .nil) rfl rfl (by simp) (by decide))) (snda_cons (snd_dat (snd_disp (.cons (snd_var (i := 1) rfl (by first | exact .inl rfl | exact .inr (.inl rfl) | exact .inr (.inr rfl))) snd_bl .nil) rfl rfl (by simp) (by decide))) (snda_cons (snd_dat (snd_disp (.cons (snd_var (i := 1) rfl (by first | exact .inl rfl | exact .inr (.inl rfl) | exact .inr (.inr rfl))) snd_non .nil) rfl rfl (by simp) (by decide))) (snda_cons (snd_dat (snd_disp (.cons snd_str snd_int .nil) rfl rfl (by simp) (by decide))) snda_nil rfl) rfl) rfl) rfl) rfl) rfl) rfl) rfl) rfl) rfl) rfl) rfl) rfl) rfl))) (sndb_cons (snds_asg (i := 2) nd rfl (by first | exact .inl rfl | exact .inr rfl) (snd_bin gPlus_ok (snd_var (i := 2) rfl (by first | exact .inl rfl | exact .inr (.inl rfl) | exact .inr (.inr rfl))) (snd_lst (snda_cons (snd_dat (snd_disp (.cons snd_str snd_int .nil) rfl rfl (by simp) (by decide))) (snda_cons (snd_dat (snd_disp (.cons (snd_bin gPlus_ok (snd_var (i := 1) rfl (by first | exact .inl rfl | exact .inr (.inl rfl) | exact .inr (.inr rfl))) (snd_bin gTimes_ok snd_str snd_int)) snd_int .nil) rfl rfl (by simp) (by decide))) (snda_cons (snd_dat (snd_disp (.cons (snd_var (i := 1) rfl (by first | exact .inl rfl | exact .inr (.inl rfl) | exact .inr (.inr rfl))) (snd_dat (snd_lst (snda_cons snd_int snda_nil rfl))) .nil) rfl rfl (by simp) (by decide))) (snda_cons (snd_dat (snd_disp (.cons (snd_var (i := 1) rfl (by first | exact .inl rfl | exact .inr (.inl rfl) | exact .inr (.inr rfl))) (snd_dat (snd_disp (.cons (snd_var (i := 1) rfl (by first | exact .inl rfl | exact .inr (.inl rfl) | exact .inr (.inr rfl))) snd_str .nil) rfl rfl (by simp) (by decide))) .nil) rfl rfl (by simp) (by decide))) (snda_cons (snd_odd hu2 (snd_tup (snda_cons (snd_var (i := 1) rfl (by first | exact .inl rfl | exact .inr (.inl rfl) | exact .inr (.inr rfl))) snda_nil rfl)) snd_int) snda_nil rfl) rfl) rfl) rfl) rfl)))) (sndb_cons (snds_asg (i := 2) nd rfl (by first | exact .inl rfl | exact .inr rfl) (snd_bin gPlus_ok (snd_var (i := 2) rfl (by first | exact .inl rfl | exact .inr (.inl rfl) | exact .inr (.inr rfl))) (snd_lst (snda_cons (snd_dat (snd_disp (.cons snd_str snd_int .nil) rfl rfl (by simp) (by decide))) (snda_cons (snd_dat (snd_disp (.cons (snd_var (i := 1) rfl (by first | exact .inl rfl | exact .inr (.inl rfl) | exact .inr (.inr rfl))) (snd_odd hu2 snd_non snd_int) .nil) rfl rfl (by simp) (by decide))) snda_nil rfl) rfl)))) (sndb_one (snds_ret (snd_ix (gIx_ok hu1) (snd_var (i := 2) rfl (by first | exact .inl rfl | exact .inr (.inl rfl) | exact .inr (.inr rfl))) (snd_bin gMod_ok (snd_var (i := 0) rfl (by first | exact .inl rfl | exact .inr (.inl rfl) | exact .inr (.inr rfl))) snd_int) (fun _ _ => rfl)))))))
theorem fn_law_odd (fx : Fx K mg) : CalD P w K mg base (ca K) (0 + 1) "_law_odd" 2 (runS 3 b_law_odd) := by
  obtain ⟨f, fd, Fn, hm⟩ := fx.d_law_odd
  exact CalD.mk' (fv_law_odd fx Fn) hm Fn.kp (Fn.bindsN fun _ _ _ _ _ _ us hl => match us, hl with | [_, _], _ => rfl)
theorem cal_law_odd (fx : Fx K mg) : CalD P w K mg base (ca K) 1 "_law_odd" 2 F_law_odd := fn_law_odd fx
theorem sc_law_is_name : FnScope ["_law_thing", "_law_sign"] ["_law_thing"] (defScope (HeadX.top 18)) := ⟨rfl, rfl, rfl, by decide +kernel, rfl, by decide +kernel, by decide +kernel⟩
theorem fv_law_is_name (fx : Fx K mg) {f : Addr} {fd : FuncData} (Fn : FunD K "_law_is_name" "_law_is_name" (defArgs (HeadX.top 18)) (defBody (HeadX.top 18)) (defScope (HeadX.top 18)) [] [] f fd) : FnV P w K mg base (0 + 1) f fd ["_law_thing"] (spD K (ca K) 1 (runS 2 b_law_is_name)) := by
  refine fnv_of (P := P) (w := w) (K := K) (mg := mg) (base := base) (ca := ca K) (k := 0) (N := ["_law_thing", "_law_sign"]) (ps := ["_law_thing"]) (fS := b_law_is_name) Fn sc_law_is_name ?_
  intro cdv A outer s H E hr
  have hu : (A.deeper (envOfC "_law_is_name" (defScope (HeadX.top 18)) s.heap.objs.size f cdv)).units + 64 < cLine := by have := hr.room.un; omega
  have hu1 : (A.deeper (envOfC "_law_is_name" (defScope (HeadX.top 18)) s.heap.objs.size f cdv)).units + 1 < cLine := by omega
  have hu2 : (A.deeper (envOfC "_law_is_name" (defScope (HeadX.top 18)) s.heap.objs.size f cdv)).units + 66 < cLine := by have := hr.room.un; omega
  have nd := sc_law_is_name.nd
  have tks : Takes (bodyX P w K mg base ["_law_thing", "_law_sign"] "_law_is_name" (defScope (HeadX.top 18)) f cdv A outer s H E) (WB E) := takes_of rfl rfl rfl rfl
  have tk := lets_of tks
  have po : PassesOwn (model P w) (bodyX P w K mg base ["_law_thing", "_law_sign"] "_law_is_name" (defScope (HeadX.top 18)) f cdv A outer s H E).A (bodyX P w K mg base ["_law_thing", "_law_sign"] "_law_is_name" (defScope (HeadX.top 18)) f cdv A outer s H E).env (bodyX P w K mg base ["_law_thing", "_law_sign"] "_law_is_name" (defScope (HeadX.top 18)) f cdv A outer s H E).xe := passes_of rfl
  unfold b_law_is_name
  exact (sndb_cons (snds_if (sndw_t (sndw_or (sndt_not (sndt_val (snd_isT (T := "str") (by simp) (snd_var (i := 0) rfl (by first | exact .inl rfl | exact .inr (.inl rfl) | exact .inr (.inr rfl))) rfl fx.n_isinstance bt_isinstance rfl fx.n_str bt_str (by decide) (by decide) (by decide) (by decide) rfl rfl rfl) (fun _ => rfl))) (sndw_or (sndt_cmp gLt_ok (snd_callB gLen_ok rfl fx.n_len bt_len (snda_cons (snd_var (i := 0) rfl (by first | exact .inl rfl | exact .inr (.inl rfl) | exact .inr (.inr rfl))) snda_nil rfl)) snd_int rfl) (sndw_or1 (sndt_cmp gGt_ok (snd_callB gLen_ok rfl fx.n_len bt_len (snda_cons (snd_var (i := 0) rfl (by first | exact .inl rfl | exact .inr (.inl rfl) | exact .inr (.inr rfl))) snda_nil rfl)) snd_int rfl))))) (sndb_one (snds_ret snd_bl)) sndb_nil) (sndb_one (snds_ret (snd_cmp (gEq_ok hu) (snd_lc (own := [("_law_sign", 1)]) rfl rfl tks rfl nd (by decide) (sndi_val (snd_var (i := 0) rfl (by first | exact .inl rfl | exact .inr (.inl rfl) | exact .inr (.inr rfl)))) (blkok_of (N := ["_law_thing", "_law_sign"]) (sc := defScope (HeadX.top 18)) (by decide +kernel)) (fun s H C cl fp E => (sndg_name nd rfl (by first | exact .inl rfl | exact .inr rfl))) (fun s H C cl fp E W tk => (sndts_one (sndt_cmp (gNotIn_ok hu1) (snd_var (i := 1) rfl (by first | exact .inl rfl | exact .inr (.inl rfl) | exact .inr (.inr rfl))) snd_str rfl))) (fun s H C cl fp E W tk => (snd_var (i := 1) rfl (by first | exact .inl rfl | exact .inr (.inl rfl) | exact .inr (.inr rfl))))) (snd_lst snda_nil) rfl))))
theorem fn_law_is_name (fx : Fx K mg) : CalD P w K mg base (ca K) (0 + 1) "_law_is_name" 1 (runS 2 b_law_is_name) := by
  obtain ⟨f, fd, Fn, hm⟩ := fx.d_law_is_name
  exact CalD.mk' (fv_law_is_name fx Fn) hm Fn.kp (Fn.bindsN fun _ _ _ _ _ _ us hl => match us, hl with | [_], _ => rfl)
theorem cal_law_is_name (fx : Fx K mg) : CalD P w K mg base (ca K) 1 "_law_is_name" 1 F_law_is_name := fn_law_is_name fx
theorem sc_law_is_tree : FnScope ["_law_thing", "_law_name_here"] ["_law_thing"] (defScope (HeadX.top 19)) := ⟨rfl, rfl, rfl, by decide +kernel, rfl, by decide +kernel, by decide +kernel⟩
theorem fv_law_is_tree {k : Nat} {r__law_is_tree : List D → Out} (fx : Fx K mg) (hk : 1 ≤ k) (h__law_is_tree : CalD P w K mg base (ca K) k "_law_is_tree" 1 r__law_is_tree) {f : Addr} {fd : FuncData} (Fn : FunD K "_law_is_tree" "_law_is_tree" (defArgs (HeadX.top 19)) (defBody (HeadX.top 19)) (defScope (HeadX.top 19)) [] [] f fd) : FnV P w K mg base (k + 1) f fd ["_law_thing"] (spD K (ca K) 1 (runS 2 (b_law_is_tree r__law_is_tree))) := by
  refine fnv_of (P := P) (w := w) (K := K) (mg := mg) (base := base) (ca := ca K) (k := k) (N := ["_law_thing", "_law_name_here"]) (ps := ["_law_thing"]) (fS := (b_law_is_tree r__law_is_tree)) Fn sc_law_is_tree ?_
  intro cdv A outer s H E hr
  have hu : (A.deeper (envOfC "_law_is_tree" (defScope (HeadX.top 19)) s.heap.objs.size f cdv)).units + 64 < cLine := by have := hr.room.un; omega
  have hu1 : (A.deeper (envOfC "_law_is_tree" (defScope (HeadX.top 19)) s.heap.objs.size f cdv)).units + 1 < cLine := by omega
  have hu2 : (A.deeper (envOfC "_law_is_tree" (defScope (HeadX.top 19)) s.heap.objs.size f cdv)).units + 66 < cLine := by have := hr.room.un; omega
  have nd := sc_law_is_tree.nd
  have tks : Takes (bodyX P w K mg base ["_law_thing", "_law_name_here"] "_law_is_tree" (defScope (HeadX.top 19)) f cdv A outer s H E) (WB E) := takes_of rfl rfl rfl rfl
  have tk := lets_of tks
  have po : PassesOwn (model P w) (bodyX P w K mg base ["_law_thing", "_law_name_here"] "_law_is_tree" (defScope (HeadX.top 19)) f cdv A outer s H E).A (bodyX P w K mg base ["_law_thing", "_law_name_here"] "_law_is_tree" (defScope (HeadX.top 19)) f cdv A outer s H E).env (bodyX P w K mg base ["_law_thing", "_law_name_here"] "_law_is_tree" (defScope (HeadX.top 19)) f cdv A outer s H E).xe := passes_of rfl
  unfold b_law_is_tree
  exact (sndb_cons (snds_if (sndt_val (snd_isT (T := "dict") (by simp) (snd_var (i := 0) rfl (by first | exact .inl rfl | exact .inr (.inl rfl) | exact .inr (.inr rfl))) rfl fx.n_isinstance bt_isinstance rfl fx.n_dict bt_dict (by decide) (by decide) (by decide) (by decide) rfl rfl rfl) (fun _ => rfl)) (sndb_one (snds_ret (snd_callB (gAll_ok rfl) rfl fx.n_all bt_all (snda_cons (snd_lc (own := [("_law_name_here", 1)]) rfl rfl tks rfl nd (by decide) (sndi_val (snd_var (i := 0) rfl (by first | exact .inl rfl | exact .inr (.inl rfl) | exact .inr (.inr rfl)))) (blkok_of (N := ["_law_thing", "_law_name_here"]) (sc := defScope (HeadX.top 19)) (by decide +kernel)) (fun s H C cl fp E => (sndg_name nd rfl (by first | exact .inl rfl | exact .inr rfl))) (fun s H C cl fp E W tk => sndts_nil) (fun s H C cl fp E W tk => (snd_and (snd_call ((cal_law_is_name fx).up (by omega)).c hr tk rfl (snda_cons (snd_var (i := 1) rfl (by first | exact .inl rfl | exact .inr (.inl rfl) | exact .inr (.inr rfl))) snda_nil rfl)) (snd_one (snd_call (h__law_is_tree).c hr tk rfl (snda_cons (snd_ix (gIx_ok hu1) (snd_var (i := 0) rfl (by first | exact .inl rfl | exact .inr (.inl rfl) | exact .inr (.inr rfl))) (snd_var (i := 1) rfl (by first | exact .inl rfl | exact .inr (.inl rfl) | exact .inr (.inr rfl))) (fun _ _ => rfl)) snda_nil rfl)))))) snda_nil rfl)))) sndb_nil) (sndb_one (snds_ret (snd_and (snd_isT (T := "int") (by simp) (snd_var (i := 0) rfl (by first | exact .inl rfl | exact .inr (.inl rfl) | exact .inr (.inr rfl))) rfl fx.n_isinstance bt_isinstance rfl fx.n_int bt_int (by decide) (by decide) (by decide) (by decide) rfl rfl rfl) (snd_one (snd_not (snd_isT (T := "bool") (by simp) (snd_var (i := 0) rfl (by first | exact .inl rfl | exact .inr (.inl rfl) | exact .inr (.inr rfl))) rfl fx.n_isinstance bt_isinstance rfl fx.n_bool bt_bool (by decide) (by decide) (by decide) (by decide) rfl rfl rfl)))))))
theorem fn_law_is_tree {k : Nat} {r__law_is_tree : List D → Out} (fx : Fx K mg) (hk : 1 ≤ k) (h__law_is_tree : CalD P w K mg base (ca K) k "_law_is_tree" 1 r__law_is_tree) : CalD P w K mg base (ca K) (k + 1) "_law_is_tree" 1 (runS 2 (b_law_is_tree r__law_is_tree)) := by
  obtain ⟨f, fd, Fn, hm⟩ := fx.d_law_is_tree
  exact CalD.mk' (fv_law_is_tree fx hk h__law_is_tree Fn) hm Fn.kp (Fn.bindsN fun _ _ _ _ _ _ us hl => match us, hl with | [_], _ => rfl)
theorem cal_law_is_tree (fx : Fx K mg) : ∀ n : Nat, CalD P w K mg base (ca K) (1 + n) "_law_is_tree" 1 (F_law_is_tree n)
  | 0 => by
    obtain ⟨f, fd, Fn, hm⟩ := fx.d_law_is_tree
    exact CalD.mk' (ps := ["_law_thing"]) (fnv_stuck rfl) hm Fn.kp (Fn.bindsN fun _ _ _ _ _ _ us hl => match us, hl with | [_], _ => rfl)
  | n + 1 => fn_law_is_tree fx (k := 1 + n) (by omega) (cal_law_is_tree fx n)
theorem sc_law_put_in : FnScope ["_law_tree", "_law_cell", "_law_thing", "_law_some", "_law_found", "_law_name_here"] ["_law_tree", "_law_cell", "_law_thing"] (defScope (HeadX.top 20)) := ⟨rfl, rfl, rfl, by decide +kernel, rfl, by decide +kernel, by decide +kernel⟩
theorem fv_law_put_in {k : Nat} {r__law_put_in : List D → Out} (fx : Fx K mg) (hk : 0 ≤ k) (h__law_put_in : CalD P w K mg base (ca K) k "_law_put_in" 3 r__law_put_in) {f : Addr} {fd : FuncData} (Fn : FunD K "_law_put_in" "_law_put_in" (defArgs (HeadX.top 20)) (defBody (HeadX.top 20)) (defScope (HeadX.top 20)) [] [] f fd) : FnV P w K mg base (k + 1) f fd ["_law_tree", "_law_cell", "_law_thing"] (spD K (ca K) 3 (runS 6 (b_law_put_in r__law_put_in))) := by
  refine fnv_of (P := P) (w := w) (K := K) (mg := mg) (base := base) (ca := ca K) (k := k) (N := ["_law_tree", "_law_cell", "_law_thing", "_law_some", "_law_found", "_law_name_here"]) (ps := ["_law_tree", "_law_cell", "_law_thing"]) (fS := (b_law_put_in r__law_put_in)) Fn sc_law_put_in ?_
  intro cdv A outer s H E hr
  have hu : (A.deeper (envOfC "_law_put_in" (defScope (HeadX.top 20)) s.heap.objs.size f cdv)).units + 64 < cLine := by have := hr.room.un; omega
  have hu1 : (A.deeper (envOfC "_law_put_in" (defScope (HeadX.top 20)) s.heap.objs.size f cdv)).units + 1 < cLine := by omega
  have hu2 : (A.deeper (envOfC "_law_put_in" (defScope (HeadX.top 20)) s.heap.objs.size f cdv)).units + 66 < cLine := by have := hr.room.un; omega
  have nd := sc_law_put_in.nd
  have tks : Takes (bodyX P w K mg base ["_law_tree", "_law_cell", "_law_thing", "_law_some", "_law_found", "_law_name_here"] "_law_put_in" (defScope (HeadX.top 20)) f cdv A outer s H E) (WB E) := takes_of rfl rfl rfl rfl
  have tk := lets_of tks
  have po : PassesOwn (model P w) (bodyX P w K mg base ["_law_tree", "_law_cell", "_law_thing", "_law_some", "_law_found", "_law_name_here"] "_law_put_in" (defScope (HeadX.top 20)) f cdv A outer s H E).A (bodyX P w K mg base ["_law_tree", "_law_cell", "_law_thing", "_law_some", "_law_found", "_law_name_here"] "_law_put_in" (defScope (HeadX.top 20)) f cdv A outer s H E).env (bodyX P w K mg base ["_law_tree", "_law_cell", "_law_thing", "_law_some", "_law_found", "_law_name_here"] "_law_put_in" (defScope (HeadX.top 20)) f cdv A outer s H E).xe := passes_of rfl
  unfold b_law_put_in
  exact (sndb_cons (snds_if (sndw_t (sndw_or (sndt_not (sndt_val (snd_isT (T := "dict") (by simp) (snd_var (i := 0) rfl (by first | exact .inl rfl | exact .inr (.inl rfl) | exact .inr (.inr rfl))) rfl fx.n_isinstance bt_isinstance rfl fx.n_dict bt_dict (by decide) (by decide) (by decide) (by decide) rfl rfl rfl) (fun _ => rfl))) (sndw_or1 (sndt_cmp (gEq_ok hu) (snd_callB gLen_ok rfl fx.n_len bt_len (snda_cons (snd_var (i := 0) rfl (by first | exact .inl rfl | exact .inr (.inl rfl) | exact .inr (.inr rfl))) snda_nil rfl)) snd_int rfl)))) (sndb_one (snds_retV (i := 2) rfl (by first | exact .inl rfl | exact .inr (.inl rfl) | exact .inr (.inr rfl)))) sndb_nil) (sndb_cons (snds_asg (i := 3) nd rfl (by first | exact .inl rfl | exact .inr rfl) (snd_callB (gSorted_ok rfl) rfl fx.n_sorted bt_sorted (snda_cons (snd_callTy (gList_ok rfl) rfl fx.n_list bt_list (snda_cons (snd_var (i := 0) rfl (by first | exact .inl rfl | exact .inr (.inl rfl) | exact .inr (.inr rfl))) snda_nil rfl)) snda_nil rfl))) (sndb_cons (snds_asg (i := 4) nd rfl (by first | exact .inl rfl | exact .inr rfl) (snd_callTy (gDict_ok rfl) rfl fx.n_dict bt_dict (snda_cons (snd_var (i := 0) rfl (by first | exact .inl rfl | exact .inr (.inl rfl) | exact .inr (.inr rfl))) snda_nil rfl))) (sndb_cons (snds_asg (i := 5) nd rfl (by first | exact .inl rfl | exact .inr rfl) (snd_ix (gIx_ok hu1) (snd_var (i := 3) rfl (by first | exact .inl rfl | exact .inr (.inl rfl) | exact .inr (.inr rfl))) (snd_bin gMod_ok (snd_var (i := 1) rfl (by first | exact .inl rfl | exact .inr (.inl rfl) | exact .inr (.inr rfl))) (snd_callB gLen_ok rfl fx.n_len bt_len (snda_cons (snd_var (i := 3) rfl (by first | exact .inl rfl | exact .inr (.inl rfl) | exact .inr (.inr rfl))) snda_nil rfl))) (fun _ _ => rfl))) (sndb_cons (snds_put (i := 4) hu1 rfl (by first | exact .inl rfl | exact .inr (.inl rfl) | exact .inr (.inr rfl)) (snd_var (i := 5) rfl (by first | exact .inl rfl | exact .inr (.inl rfl) | exact .inr (.inr rfl))) (snd_ite (sndt_cmp (gEq_ok hu) (snd_bin gMod_ok (snd_bin gDiv_ok (snd_var (i := 1) rfl (by first | exact .inl rfl | exact .inr (.inl rfl) | exact .inr (.inr rfl))) snd_int) snd_int) snd_int rfl) (snd_var (i := 2) rfl (by first | exact .inl rfl | exact .inr (.inl rfl) | exact .inr (.inr rfl))) (snd_call (h__law_put_in).c hr tk rfl (snda_cons (snd_ix (gIx_ok hu1) (snd_var (i := 0) rfl (by first | exact .inl rfl | exact .inr (.inl rfl) | exact .inr (.inr rfl))) (snd_var (i := 5) rfl (by first | exact .inl rfl | exact .inr (.inl rfl) | exact .inr (.inr rfl))) (fun _ _ => rfl)) (snda_cons (snd_bin gDiv_ok (snd_var (i := 1) rfl (by first | exact .inl rfl | exact .inr (.inl rfl) | exact .inr (.inr rfl))) snd_int) (snda_cons (snd_var (i := 2) rfl (by first | exact .inl rfl | exact .inr (.inl rfl) | exact .inr (.inr rfl))) snda_nil rfl) rfl) rfl)))) (sndb_one (snds_retV (i := 4) rfl (by first | exact .inl rfl | exact .inr (.inl rfl) | exact .inr (.inr rfl)))))))))
theorem fn_law_put_in {k : Nat} {r__law_put_in : List D → Out} (fx : Fx K mg) (hk : 0 ≤ k) (h__law_put_in : CalD P w K mg base (ca K) k "_law_put_in" 3 r__law_put_in) : CalD P w K mg base (ca K) (k + 1) "_law_put_in" 3 (runS 6 (b_law_put_in r__law_put_in)) := by
  obtain ⟨f, fd, Fn, hm⟩ := fx.d_law_put_in
  exact CalD.mk' (fv_law_put_in fx hk h__law_put_in Fn) hm Fn.kp (Fn.bindsN fun _ _ _ _ _ _ us hl => match us, hl with | [_, _, _], _ => rfl)
theorem cal_law_put_in (fx : Fx K mg) : ∀ n : Nat, CalD P w K mg base (ca K) (0 + n) "_law_put_in" 3 (F_law_put_in n)
  | 0 => by
    obtain ⟨f, fd, Fn, hm⟩ := fx.d_law_put_in
    exact CalD.mk' (ps := ["_law_tree", "_law_cell", "_law_thing"]) (fnv_stuck rfl) hm Fn.kp (Fn.bindsN fun _ _ _ _ _ _ us hl => match us, hl with | [_, _, _], _ => rfl)
  | n + 1 => fn_law_put_in fx (k := 0 + n) (by omega) (cal_law_put_in fx n)
theorem sc_law_text : FnScope ["_law_cell", "_law_name_here", "_law_signs", "_law_at"] ["_law_cell", "_law_name_here"] (defScope (HeadX.top 21)) := ⟨rfl, rfl, rfl, by decide +kernel, rfl, by decide +kernel, by decide +kernel⟩
theorem fv_law_text (fx : Fx K mg) {f : Addr} {fd : FuncData} (Fn : FunD K "_law_text" "_law_text" (defArgs (HeadX.top 21)) (defBody (HeadX.top 21)) (defScope (HeadX.top 21)) [] [] f fd) : FnV P w K mg base (0 + 1) f fd ["_law_cell", "_law_name_here"] (spD K (ca K) 2 (runS 4 b_law_text)) := by
  refine fnv_of (P := P) (w := w) (K := K) (mg := mg) (base := base) (ca := ca K) (k := 0) (N := ["_law_cell", "_law_name_here", "_law_signs", "_law_at"]) (ps := ["_law_cell", "_law_name_here"]) (fS := b_law_text) Fn sc_law_text ?_
  intro cdv A outer s H E hr
  have hu : (A.deeper (envOfC "_law_text" (defScope (HeadX.top 21)) s.heap.objs.size f cdv)).units + 64 < cLine := by have := hr.room.un; omega
  have hu1 : (A.deeper (envOfC "_law_text" (defScope (HeadX.top 21)) s.heap.objs.size f cdv)).units + 1 < cLine := by omega
  have hu2 : (A.deeper (envOfC "_law_text" (defScope (HeadX.top 21)) s.heap.objs.size f cdv)).units + 66 < cLine := by have := hr.room.un; omega
  have nd := sc_law_text.nd
  have tks : Takes (bodyX P w K mg base ["_law_cell", "_law_name_here", "_law_signs", "_law_at"] "_law_text" (defScope (HeadX.top 21)) f cdv A outer s H E) (WB E) := takes_of rfl rfl rfl rfl
  have tk := lets_of tks
  have po : PassesOwn (model P w) (bodyX P w K mg base ["_law_cell", "_law_name_here", "_law_signs", "_law_at"] "_law_text" (defScope (HeadX.top 21)) f cdv A outer s H E).A (bodyX P w K mg base ["_law_cell", "_law_name_here", "_law_signs", "_law_at"] "_law_text" (defScope (HeadX.top 21)) f cdv A outer s H E).env (bodyX P w K mg base ["_law_cell", "_law_name_here", "_law_signs", "_law_at"] "_law_text" (defScope (HeadX.top 21)) f cdv A outer s H E).xe := passes_of rfl
  unfold b_law_text
  exact (sndb_cons (snds_asg (i := 2) nd rfl (by first | exact .inl rfl | exact .inr rfl) snd_str) (sndb_cons (snds_asg (i := 3) nd rfl (by first | exact .inl rfl | exact .inr rfl) (snd_bin gMod_ok (snd_bin gDiv_ok (snd_var (i := 0) rfl (by first | exact .inl rfl | exact .inr (.inl rfl) | exact .inr (.inr rfl))) snd_int) (snd_bin gPlus_ok (snd_callB gLen_ok rfl fx.n_len bt_len (snda_cons (snd_var (i := 1) rfl (by first | exact .inl rfl | exact .inr (.inl rfl) | exact .inr (.inr rfl))) snda_nil rfl)) snd_int))) (sndb_cons (snds_if (sndt_cmp (gEq_ok hu) (snd_bin gMod_ok (snd_var (i := 0) rfl (by first | exact .inl rfl | exact .inr (.inl rfl) | exact .inr (.inr rfl))) snd_int) snd_int rfl) (sndb_one (snds_ret (snd_bin gPlus_ok (snd_bin gPlus_ok (snd_sl (snd_var (i := 1) rfl (by first | exact .inl rfl | exact .inr (.inl rfl) | exact .inr (.inr rfl))) sndo_none (sndo_some (snd_var (i := 3) rfl (by first | exact .inl rfl | exact .inr (.inl rfl) | exact .inr (.inr rfl))))) (snd_ix (gIx_ok hu1) (snd_var (i := 2) rfl (by first | exact .inl rfl | exact .inr (.inl rfl) | exact .inr (.inr rfl))) (snd_bin gMod_ok (snd_bin gDiv_ok (snd_var (i := 0) rfl (by first | exact .inl rfl | exact .inr (.inl rfl) | exact .inr (.inr rfl))) snd_int) (snd_callB gLen_ok rfl fx.n_len bt_len (snda_cons (snd_var (i := 2) rfl (by first | exact .inl rfl | exact .inr (.inl rfl) | exact .inr (.inr rfl))) snda_nil rfl))) (fun _ _ => rfl))) (snd_sl (snd_var (i := 1) rfl (by first | exact .inl rfl | exact .inr (.inl rfl) | exact .inr (.inr rfl))) (sndo_some (snd_var (i := 3) rfl (by first | exact .inl rfl | exact .inr (.inl rfl) | exact .inr (.inr rfl)))) sndo_none)))) sndb_nil) (sndb_one (snds_ret (snd_ix (gIx_ok hu1) (snd_lst (snda_cons (snd_var (i := 1) rfl (by first | exact .inl rfl | exact .inr (.inl rfl) | exact .inr (.inr rfl))) (snda_cons (snd_bin gTimes_ok (snd_var (i := 1) rfl (by first | exact .inl rfl | exact .inr (.inl rfl) | exact .inr (.inr rfl))) snd_int) (snda_cons (snd_dat (snd_sl snd_str sndo_none (sndo_some (snd_bin gMod_ok (snd_bin gDiv_ok (snd_var (i := 0) rfl (by first | exact .inl rfl | exact .inr (.inl rfl) | exact .inr (.inr rfl))) snd_int) snd_int)))) (snda_cons (snd_dat (snd_sl (snd_var (i := 1) rfl (by first | exact .inl rfl | exact .inr (.inl rfl) | exact .inr (.inr rfl))) sndo_none (sndo_some (snd_var (i := 3) rfl (by first | exact .inl rfl | exact .inr (.inl rfl) | exact .inr (.inr rfl)))))) snda_nil rfl) rfl) rfl) rfl)) (snd_bin gMod_ok (snd_var (i := 0) rfl (by first | exact .inl rfl | exact .inr (.inl rfl) | exact .inr (.inr rfl))) snd_int) (fun _ _ => rfl)))))))
theorem fn_law_text (fx : Fx K mg) : CalD P w K mg base (ca K) (0 + 1) "_law_text" 2 (runS 4 b_law_text) := by
  obtain ⟨f, fd, Fn, hm⟩ := fx.d_law_text
  exact CalD.mk' (fv_law_text fx Fn) hm Fn.kp (Fn.bindsN fun _ _ _ _ _ _ us hl => match us, hl with | [_, _], _ => rfl)
theorem cal_law_text (fx : Fx K mg) : CalD P w K mg base (ca K) 1 "_law_text" 2 F_law_text := fn_law_text fx
theorem sc_law : FnScope ["_law_script", "_law_names_here", "_law_tree", "_law_cell", "_law_odd_here", "_law_kept", "_law_things", "_law_thing", "_law_table_here", "_law_due", "_law_found", "_law_name_here", "_law_one"] ["_law_script"] (defScope (HeadX.top 22)) := ⟨rfl, rfl, rfl, by decide +kernel, rfl, by decide +kernel, by decide +kernel⟩
theorem fv_law (fx : Fx K mg) {f : Addr} {fd : FuncData} (Fn : FunD K "law" "law" (defArgs (HeadX.top 22)) (defBody (HeadX.top 22)) (defScope (HeadX.top 22)) [] [] f fd) : FnV P w K mg base (188 + 1) f fd ["_law_script"] (spD K (ca K) 1 (runS 13 b_law)) := by
  refine fnv_of (P := P) (w := w) (K := K) (mg := mg) (base := base) (ca := ca K) (k := 188) (N := ["_law_script", "_law_names_here", "_law_tree", "_law_cell", "_law_odd_here", "_law_kept", "_law_things", "_law_thing", "_law_table_here", "_law_due", "_law_found", "_law_name_here", "_law_one"]) (ps := ["_law_script"]) (fS := b_law) Fn sc_law ?_
  intro cdv A outer s H E hr
  have hu : (A.deeper (envOfC "law" (defScope (HeadX.top 22)) s.heap.objs.size f cdv)).units + 64 < cLine := by have := hr.room.un; omega
  have hu1 : (A.deeper (envOfC "law" (defScope (HeadX.top 22)) s.heap.objs.size f cdv)).units + 1 < cLine := by omega
  have hu2 : (A.deeper (envOfC "law" (defScope (HeadX.top 22)) s.heap.objs.size f cdv)).units + 66 < cLine := by have := hr.room.un; omega
  have nd := sc_law.nd
  have tks : Takes (bodyX P w K mg base ["_law_script", "_law_names_here", "_law_tree", "_law_cell", "_law_odd_here", "_law_kept", "_law_things", "_law_thing", "_law_table_here", "_law_due", "_law_found", "_law_name_here", "_law_one"] "law" (defScope (HeadX.top 22)) f cdv A outer s H E) (WB E) := takes_of rfl rfl rfl rfl
  have tk := lets_of tks
  have po : PassesOwn (model P w) (bodyX P w K mg base ["_law_script", "_law_names_here", "_law_tree", "_law_cell", "_law_odd_here", "_law_kept", "_law_things", "_law_thing", "_law_table_here", "_law_due", "_law_found", "_law_name_here", "_law_one"] "law" (defScope (HeadX.top 22)) f cdv A outer s H E).A (bodyX P w K mg base ["_law_script", "_law_names_here", "_law_tree", "_law_cell", "_law_odd_here", "_law_kept", "_law_things", "_law_thing", "_law_table_here", "_law_due", "_law_found", "_law_name_here", "_law_one"] "law" (defScope (HeadX.top 22)) f cdv A outer s H E).env (bodyX P w K mg base ["_law_script", "_law_names_here", "_law_tree", "_law_cell", "_law_odd_here", "_law_kept", "_law_things", "_law_thing", "_law_table_here", "_law_due", "_law_found", "_law_name_here", "_law_one"] "law" (defScope (HeadX.top 22)) f cdv A outer s H E).xe := passes_of rfl
  unfold b_law
  exact (sndb_cons (snds_asg (i := 1) nd rfl (by first | exact .inl rfl | exact .inr rfl) (snd_call ((cal_law_names fx).up (by omega)).c hr tk rfl (snda_cons (snd_var (i := 0) rfl (by first | exact .inl rfl | exact .inr (.inl rfl) | exact .inr (.inr rfl))) snda_nil rfl))) (sndb_cons (snds_frz 1 (snds_asg (i := 2) nd rfl (by first | exact .inl rfl | exact .inr rfl) (snd_call ((cal_law_house fx).up (by omega)).c hr tk rfl (snda_cons (snd_var (i := 0) rfl (by first | exact .inl rfl | exact .inr (.inl rfl) | exact .inr (.inr rfl))) (snda_cons (snd_var (i := 1) rfl (by first | exact .inl rfl | exact .inr (.inl rfl) | exact .inr (.inr rfl))) snda_nil rfl) rfl)))) (sndb_cons (snds_for po rfl (sndi_val (snd_sl (snd_var (i := 0) rfl (by first | exact .inl rfl | exact .inr (.inl rfl) | exact .inr (.inr rfl))) (sndo_some snd_int) (sndo_some snd_int))) (sndg_name nd rfl (by first | exact .inl rfl | exact .inr rfl)) (sndb_cons (snds_frz 2 (snds_asg (i := 4) nd rfl (by first | exact .inl rfl | exact .inr rfl) (snd_call ((cal_law_put_in fx 20).up (by omega)).c hr tk rfl (snda_cons (snd_var (i := 2) rfl (by first | exact .inl rfl | exact .inr (.inl rfl) | exact .inr (.inr rfl))) (snda_cons (snd_bin gDiv_ok (snd_var (i := 3) rfl (by first | exact .inl rfl | exact .inr (.inl rfl) | exact .inr (.inr rfl))) snd_int) (snda_cons (snd_dat (snd_call ((cal_law_odd fx).up (by omega)).c hr tk rfl (snda_cons (snd_var (i := 3) rfl (by first | exact .inl rfl | exact .inr (.inl rfl) | exact .inr (.inr rfl))) (snda_cons (snd_ix (gIx_ok hu1) (snd_var (i := 1) rfl (by first | exact .inl rfl | exact .inr (.inl rfl) | exact .inr (.inr rfl))) (snd_bin gMod_ok (snd_var (i := 3) rfl (by first | exact .inl rfl | exact .inr (.inl rfl) | exact .inr (.inr rfl))) snd_int) (fun _ _ => rfl)) snda_nil rfl) rfl))) snda_nil rfl) rfl) rfl)))) (sndb_cons (snds_asg (i := 5) nd rfl (by first | exact .inl rfl | exact .inr rfl) (snd_callB (gRepr_ok hu2 hr.gd) rfl fx.n_repr bt_repr (snda_cons (snd_var (i := 4) rfl (by first | exact .inl rfl | exact .inr (.inl rfl) | exact .inr (.inr rfl))) snda_nil rfl))) (sndb_cons (snds_frz 2 (snds_frz 4 (snds_asg (i := 6) nd rfl (by first | exact .inl rfl | exact .inr rfl) (snd_lst (snda_cons (snd_var (i := 2) rfl (by first | exact .inl rfl | exact .inr (.inl rfl) | exact .inr (.inr rfl))) (snda_cons (snd_var (i := 4) rfl (by first | exact .inl rfl | exact .inr (.inl rfl) | exact .inr (.inr rfl))) (snda_cons (snd_dat (snd_call ((cal_law_odd fx).up (by omega)).c hr tk rfl (snda_cons (snd_bin gDiv_ok (snd_var (i := 3) rfl (by first | exact .inl rfl | exact .inr (.inl rfl) | exact .inr (.inr rfl))) snd_int) (snda_cons (snd_ix (gIx_ok hu1) (snd_var (i := 1) rfl (by first | exact .inl rfl | exact .inr (.inl rfl) | exact .inr (.inr rfl))) snd_int (fun _ _ => rfl)) snda_nil rfl) rfl))) (snda_cons (snd_dat (snd_call ((cal_law_text fx).up (by omega)).c hr tk rfl (snda_cons (snd_var (i := 3) rfl (by first | exact .inl rfl | exact .inr (.inl rfl) | exact .inr (.inr rfl))) (snda_cons (snd_ix (gIx_ok hu1) (snd_var (i := 1) rfl (by first | exact .inl rfl | exact .inr (.inl rfl) | exact .inr (.inr rfl))) (snd_bin gMod_ok (snd_bin gDiv_ok (snd_var (i := 3) rfl (by first | exact .inl rfl | exact .inr (.inl rfl) | exact .inr (.inr rfl))) snd_int) snd_int) (fun _ _ => rfl)) snda_nil rfl) rfl))) snda_nil rfl) rfl) rfl) rfl))))) (sndb_cons (snds_frz 6 (snds_for po rfl (sndi_val (snd_var (i := 6) rfl (by first | exact .inl rfl | exact .inr (.inl rfl) | exact .inr (.inr rfl)))) (sndg_name nd rfl (by first | exact .inl rfl | exact .inr rfl)) (sndb_cons (snds_asg (i := 8) nd rfl (by first | exact .inl rfl | exact .inr rfl) (snd_and (snd_isT (T := "dict") (by simp) (snd_var (i := 7) rfl (by first | exact .inl rfl | exact .inr (.inl rfl) | exact .inr (.inr rfl))) rfl fx.n_isinstance bt_isinstance rfl fx.n_dict bt_dict (by decide) (by decide) (by decide) (by decide) rfl rfl rfl) (snd_one (snd_call ((cal_law_is_tree fx 20).up (by omega)).c hr tk rfl (snda_cons (snd_var (i := 7) rfl (by first | exact .inl rfl | exact .inr (.inl rfl) | exact .inr (.inr rfl))) snda_nil rfl))))) (sndb_cons (snds_asg (i := 8) nd rfl (by first | exact .inl rfl | exact .inr rfl) (snd_and (snd_var (i := 8) rfl (by first | exact .inl rfl | exact .inr (.inl rfl) | exact .inr (.inr rfl))) (snd_one (snd_callB (gAll_ok rfl) rfl fx.n_all bt_all (snda_cons (snd_lc (own := [("_law_name_here", 11)]) rfl rfl tks rfl nd (by decide) (sndi_val (snd_var (i := 7) rfl (by first | exact .inl rfl | exact .inr (.inl rfl) | exact .inr (.inr rfl)))) (blkok_of (N := ["_law_script", "_law_names_here", "_law_tree", "_law_cell", "_law_odd_here", "_law_kept", "_law_things", "_law_thing", "_law_table_here", "_law_due", "_law_found", "_law_name_here", "_law_one"]) (sc := defScope (HeadX.top 22)) (by decide +kernel)) (fun s H C cl fp E => (sndg_name nd rfl (by first | exact .inl rfl | exact .inr rfl))) (fun s H C cl fp E W tk => sndts_nil) (fun s H C cl fp E W tk => (snd_isT (T := "dict") (by simp) (snd_ix (gIx_ok hu1) (snd_var (i := 7) rfl (by first | exact .inl rfl | exact .inr (.inl rfl) | exact .inr (.inr rfl))) (snd_var (i := 11) rfl (by first | exact .inl rfl | exact .inr (.inl rfl) | exact .inr (.inr rfl))) (fun _ _ => rfl)) rfl fx.n_isinstance bt_isinstance rfl fx.n_dict bt_dict (by decide) (by decide) (by decide) (by decide) rfl rfl rfl))) snda_nil rfl))))) (sndb_cons (snds_asg (i := 9) nd rfl (by first | exact .inl rfl | exact .inr rfl) (snd_lst (snda_cons (snd_dat (snd_call ((cal_law_is_name fx).up (by omega)).c hr tk rfl (snda_cons (snd_var (i := 7) rfl (by first | exact .inl rfl | exact .inr (.inl rfl) | exact .inr (.inr rfl))) snda_nil rfl))) (snda_cons (snd_dat (snd_call ((cal_law_is_tree fx 20).up (by omega)).c hr tk rfl (snda_cons (snd_var (i := 7) rfl (by first | exact .inl rfl | exact .inr (.inl rfl) | exact .inr (.inr rfl))) snda_nil rfl))) (snda_cons (snd_var (i := 8) rfl (by first | exact .inl rfl | exact .inr (.inl rfl) | exact .inr (.inr rfl))) snda_nil rfl) rfl) rfl))) (sndb_cons (snds_asg (i := 10) nd rfl (by first | exact .inl rfl | exact .inr rfl) (snd_lst (snda_cons (snd_dat (snd_call ((cal_is_name fx).up (by omega)).c hr tk rfl (snda_cons (snd_var (i := 7) rfl (by first | exact .inl rfl | exact .inr (.inl rfl) | exact .inr (.inr rfl))) snda_nil rfl))) (snda_cons (snd_dat (snd_call ((cal_is_tree fx 186).up (by omega)).c hr tk rfl (snda_cons (snd_var (i := 7) rfl (by first | exact .inl rfl | exact .inr (.inl rfl) | exact .inr (.inr rfl))) snda_nil rfl))) (snda_cons (snd_dat (snd_call ((cal_is_table fx).up (by omega)).c hr tk rfl (snda_cons (snd_var (i := 7) rfl (by first | exact .inl rfl | exact .inr (.inl rfl) | exact .inr (.inr rfl))) snda_nil rfl))) snda_nil rfl) rfl) rfl))) (sndb_one (snds_frz 10 (snds_if (sndw_t (sndw_or (sndt_cmp (gNe_ok hu) (snd_lc (own := [("_law_one", 12)]) rfl rfl tks rfl nd (by decide) (sndi_val (snd_var (i := 10) rfl (by first | exact .inl rfl | exact .inr (.inl rfl) | exact .inr (.inr rfl)))) (blkok_of (N := ["_law_script", "_law_names_here", "_law_tree", "_law_cell", "_law_odd_here", "_law_kept", "_law_things", "_law_thing", "_law_table_here", "_law_due", "_law_found", "_law_name_here", "_law_one"]) (sc := defScope (HeadX.top 22)) (by decide +kernel)) (fun s H C cl fp E => (sndg_name nd rfl (by first | exact .inl rfl | exact .inr rfl))) (fun s H C cl fp E W tk => (sndts_one (sndt_not (sndt_val (snd_isT (T := "bool") (by simp) (snd_var (i := 12) rfl (by first | exact .inl rfl | exact .inr (.inl rfl) | exact .inr (.inr rfl))) rfl fx.n_isinstance bt_isinstance rfl fx.n_bool bt_bool (by decide) (by decide) (by decide) (by decide) rfl rfl rfl) (fun _ => rfl))))) (fun s H C cl fp E W tk => (snd_var (i := 12) rfl (by first | exact .inl rfl | exact .inr (.inl rfl) | exact .inr (.inr rfl))))) (snd_lst snda_nil) rfl) (sndw_or1 (sndt_cmp (gNe_ok hu) (snd_var (i := 10) rfl (by first | exact .inl rfl | exact .inr (.inl rfl) | exact .inr (.inr rfl))) (snd_var (i := 9) rfl (by first | exact .inl rfl | exact .inr (.inl rfl) | exact .inr (.inr rfl))) rfl)))) (sndb_one (snds_ret snd_bl)) sndb_nil))))))))) (sndb_one (snds_if (sndt_cmp (gNe_ok hu) (snd_callB (gRepr_ok hu2 hr.gd) rfl fx.n_repr bt_repr (snda_cons (snd_var (i := 4) rfl (by first | exact .inl rfl | exact .inr (.inl rfl) | exact .inr (.inr rfl))) snda_nil rfl)) (snd_var (i := 5) rfl (by first | exact .inl rfl | exact .inr (.inl rfl) | exact .inr (.inr rfl))) rfl) (sndb_one (snds_ret snd_bl)) sndb_nil))))))) (sndb_cons (snds_if (sndt_cmp gNotB_ok (snd_call ((cal_is_table fx).up (by omega)).c hr tk rfl (snda_cons (snd_ix (gIx_ok hu1) (snd_var (i := 1) rfl (by first | exact .inl rfl | exact .inr (.inl rfl) | exact .inr (.inr rfl))) snd_int (fun _ _ => rfl)) snda_nil rfl)) snd_bl rfl) (sndb_one (snds_ret snd_bl)) sndb_nil) (sndb_one (snds_ret (snd_and (snd_cmp gIsB_ok (snd_call ((cal_is_table fx).up (by omega)).c hr tk rfl (snda_cons (snd_dat snd_newD) snda_nil rfl)) snd_bl rfl) (snd_one (snd_cmp gIsB_ok (snd_call ((cal_is_tree fx 186).up (by omega)).c hr tk rfl (snda_cons snd_int snda_nil rfl)) snd_bl rfl)))))))))
theorem fn_law (fx : Fx K mg) : CalD P w K mg base (ca K) (188 + 1) "law" 1 (runS 13 b_law) := by
  obtain ⟨f, fd, Fn, hm⟩ := fx.d_law
  exact CalD.mk' (fv_law fx Fn) hm Fn.kp (Fn.bindsN fun _ _ _ _ _ _ us hl => match us, hl with | [_], _ => rfl)
theorem cal_law (fx : Fx K mg) : CalD P w K mg base (ca K) 189 "law" 1 F_law := fn_law fx
end
end Vb
/-! Mt: trees without order, views; what is shown, what is put back: laws. -/
namespace Vb
open PySem
open Classical
inductive T where
  | num (i : Int)
  | node (m : Str → Option T)
inductive Vw where
  | whole
  | pick (s : Str)
  | call (a b : Str)
  | sift (f : Str) (k : Int)
  | join (a b : Str) (fs : List Str)
  | beside (rows : List (Str × Str × Vw))
  | each (v : Vw)
  | thn (v w : Vw)
/-- a branch of branches -/
def IsTab (m : Str → Option T) : Prop := ∀ s t, m s = some t → ∃ r, t = .node r
/-- a row that a sift shows -/
def Shn (f : Str) (k : Int) (r : Str → Option T) : Prop := ∃ i, r f = some (.num i) ∧ k ≤ i
def updM (m : Str → Option T) (a : Str) (t : T) : Str → Option T := fun s => if s = a then some t else m s
def ShnT (f : Str) (k : Int) : Option T → Prop
  | some (.node r) => Shn f k r
  | _ => False
noncomputable def sft (f : Str) (k : Int) (o : Option T) : Option T := if ShnT f k o then o else none
noncomputable def nsf (f : Str) (k : Int) (o : Option T) : Option T := if ShnT f k o then none else o
theorem sft_y {f : Str} {k : Int} {o : Option T} (h : ShnT f k o) : sft f k o = o := if_pos h
theorem sft_n {f : Str} {k : Int} {o : Option T} (h : ¬ ShnT f k o) : sft f k o = none := if_neg h
theorem nsf_y {f : Str} {k : Int} {o : Option T} (h : ShnT f k o) : nsf f k o = none := if_pos h
theorem nsf_n {f : Str} {k : Int} {o : Option T} (h : ¬ ShnT f k o) : nsf f k o = o := if_neg h
/-- the rows of keys that both have -/
def both (p q : Str → Option T) : Str → Option T := fun s => match p s, q s with
  | some (.node r), some (.node r') => some (.node fun x => (r' x).or (r x))
  | _, _ => none
def FldIn (fs : List Str) (p : Str → Option T) : Prop := ∀ s r x, p s = some (.node r) → (r x).isSome → x ∈ fs
def FldOut (fs : List Str) (p : Str → Option T) : Prop := ∀ s r x, p s = some (.node r) → (r x).isSome → x ∉ fs
def ren (m : Str → Option T) (a b : Str) : Str → Option T := fun s => if s = b then m a else if s = a then none else m s
mutual
noncomputable def shw : Vw → T → Option T
  | .whole, t => some t
  | .pick s, .node m => m s
  | .call a b, .node m => if (m a).isSome ∧ m b = none then some (.node (ren m a b)) else none
  | .sift f k, .node m => if IsTab m then some (.node fun s => sft f k (m s)) else none
  | .join a b fs, .node m => match m a, m b with
    | some (.node p), some (.node q) => if IsTab p ∧ IsTab q ∧ FldIn fs p ∧ FldOut fs q then some (.node (both p q)) else none
    | _, _ => none
  | .beside rows, .node m => (shwR rows m).map .node
  | .each v, .node m => if ∀ s t, m s = some t → (shw v t).isSome then some (.node fun s => (m s).bind (shw v)) else none
  | .thn v w, t => (shw v t).bind (shw w)
  | _, .num _ => none
noncomputable def shwR : List (Str × Str × Vw) → (Str → Option T) → Option (Str → Option T)
  | [], _ => some fun _ => none
  | (nm, part, v) :: r, m => match m part with
    | none => none
    | some t => match shw v t, shwR r m with
      | some s, some g => some (updM g nm s)
      | _, _ => none
end
def first (fs : List Str) (p q n : Str → Option T) : Str → Option T := fun s => match n s with
  | some (.node r) => some (.node fun x => if x ∈ fs then r x else none)
  | _ => if q s = none then p s else none
def second (fs : List Str) (p q n : Str → Option T) : Str → Option T := fun s => match n s with
  | some (.node r) => some (.node fun x => if x ∈ fs then none else r x)
  | _ => if p s = none then q s else none
/-- a key that only one of the tables has -/
def Lone (p q n : Str → Option T) : Prop := ∀ s, (n s).isSome → (p s).isSome = (q s).isSome
mutual
noncomputable def bck : Vw → T → T → Option T
  | .whole, _, n => some n
  | .pick s, .node m, n => some (.node (updM m s n))
  | .call a b, _, .node n => if (n b).isSome ∧ n a = none then some (.node (ren n b a)) else none
  | .sift f k, .node m, .node n => if IsTab n ∧ (∀ s t, n s = some t → ShnT f k (some t)) ∧ (∀ s t, m s = some t → ¬ ShnT f k (some t) → n s = none) then some (.node fun s => (n s).or (nsf f k (m s))) else none
  | .join a b fs, .node m, .node n => match m a, m b with
    | some (.node p), some (.node q) => if IsTab n ∧ Lone p q n then some (.node (updM (updM m a (.node (first fs p q n))) b (.node (second fs p q n)))) else none
    | _, _ => none
  | .beside rows, .node m, .node n => if ∀ s, (n s).isSome ↔ s ∈ rows.map (·.1) then (bckR rows m n).map fun g => .node fun s => (g s).or (m s) else none
  | .each v, .node m, .node n => if (∀ s, (n s).isSome ↔ (m s).isSome) ∧ ∀ s t u, m s = some t → n s = some u → (bck v t u).isSome then some (.node fun s => match m s, n s with
    | some t, some u => bck v t u
    | _, _ => none) else none
  | .thn v w, o, n => match shw v o with
    | some mid => (bck w mid n).bind (bck v o)
    | none => none
  | _, _, _ => none
noncomputable def bckR : List (Str × Str × Vw) → (Str → Option T) → (Str → Option T) → Option (Str → Option T)
  | [], _, _ => some fun _ => none
  | (nm, part, v) :: r, m, n => match m part, n nm with
    | some t, some u => match bck v t u, bckR r m n with
      | some s, some g => some (updM g part s)
      | _, _ => none
    | _, _ => none
end
/-- what is asked of a view's names -/
inductive VOk : Vw → Prop
  | whole : VOk .whole
  | pick (s : Str) : VOk (.pick s)
  | call {a b : Str} : a ≠ b → VOk (.call a b)
  | sift (f : Str) (k : Int) : VOk (.sift f k)
  | join {a b : Str} (fs : List Str) : a ≠ b → VOk (.join a b fs)
  | beside {rows : List (Str × Str × Vw)} : (rows.map (·.1)).Nodup → (rows.map fun r => r.2.1).Nodup → (∀ r ∈ rows, VOk r.2.2) → VOk (.beside rows)
  | each {v : Vw} : VOk v → VOk (.each v)
  | thn {v w : Vw} : VOk v → VOk w → VOk (.thn v w)
theorem updM_same {m : Str → Option T} {a : Str} {t : T} : updM m a t a = some t := if_pos rfl
theorem updM_ne {m : Str → Option T} {a s : Str} {t : T} (h : s ≠ a) : updM m a t s = m s := if_neg h
theorem updM_self {m : Str → Option T} {a : Str} {t : T} (h : m a = some t) : updM m a t = m := funext fun s => by
  by_cases e : s = a
  · rw [e, updM_same, h]
  · rw [updM_ne e]
/-- the names of what rows show -/
theorem shwR_none : ∀ {rows : List (Str × Str × Vw)} {m g : Str → Option T} {s : Str}, shwR rows m = some g → s ∉ rows.map (·.1) → g s = none
  | [], _, _, _, h, _ => by unfold shwR at h; cases h; rfl
  | (nm, part, v) :: r, m, g, s, h, ns => by
    unfold shwR at h
    split at h
    · cases h
    · split at h
      · rename_i s' g' e1 e2
        cases h
        rw [List.map_cons, List.mem_cons, not_or] at ns
        rw [updM_ne ns.1]
        exact shwR_none e2 ns.2
      · cases h
theorem shwR_dom : ∀ {rows : List (Str × Str × Vw)} {m g : Str → Option T} {s : Str}, shwR rows m = some g → ((g s).isSome ↔ s ∈ rows.map (·.1))
  | [], _, _, _, h => by unfold shwR at h; cases h; simp
  | (nm, part, v) :: r, m, g, s, h => by
    unfold shwR at h
    split at h
    · cases h
    · split at h
      · rename_i s' g' e1 e2
        cases h
        have ih := shwR_dom (s := s) e2
        by_cases e : s = nm
        · rw [e, updM_same]; simp
        · rw [updM_ne e, ih, List.map_cons, List.mem_cons]; simp [e]
      · cases h
theorem shwR_at : ∀ {rows : List (Str × Str × Vw)} {m g : Str → Option T}, shwR rows m = some g → (rows.map (·.1)).Nodup → ∀ {nm part v}, (nm, part, v) ∈ rows → ∃ t s, m part = some t ∧ shw v t = some s ∧ g nm = some s
  | (nm, part, v) :: r, m, g, h, nd, nm', part', v', hm => by
    unfold shwR at h
    split at h
    · cases h
    · rename_i t et
      split at h
      · rename_i s' g' e1 e2
        cases h
        rw [List.map_cons, List.nodup_cons] at nd
        rcases List.mem_cons.mp hm with e | hm
        · cases e
          exact ⟨t, s', et, e1, updM_same⟩
        · obtain ⟨t2, s2, h1, h2, h3⟩ := shwR_at e2 nd.2 hm
          refine ⟨t2, s2, h1, h2, ?_⟩
          rw [updM_ne fun z => nd.1 (by rw [← z]; exact List.mem_map.mpr ⟨_, hm, rfl⟩)]
          exact h3
      · cases h
/-- how rows come to show -/
theorem shwR_of : ∀ {rows : List (Str × Str × Vw)} {m : Str → Option T}, (∀ nm part v, (nm, part, v) ∈ rows → ∃ t s, m part = some t ∧ shw v t = some s) → ∃ g, shwR rows m = some g
  | [], _, _ => by unfold shwR; exact ⟨_, rfl⟩
  | (nm, part, v) :: r, m, h => by
    obtain ⟨t, s, e1, e2⟩ := h nm part v List.mem_cons_self
    obtain ⟨g, e3⟩ := shwR_of (rows := r) (m := m) fun a b c hm => h a b c (List.mem_cons_of_mem _ hm)
    unfold shwR
    rw [e1]
    simp only [e2, e3]
    exact ⟨_, rfl⟩
theorem bckR_none : ∀ {rows : List (Str × Str × Vw)} {m n g : Str → Option T} {s : Str}, bckR rows m n = some g → s ∉ rows.map (fun r => r.2.1) → g s = none
  | [], _, _, _, _, h, _ => by unfold bckR at h; cases h; rfl
  | (nm, part, v) :: r, m, n, g, s, h, ns => by
    unfold bckR at h
    split at h
    · split at h
      · rename_i s' g' e1 e2
        cases h
        rw [List.map_cons, List.mem_cons, not_or] at ns
        rw [updM_ne ns.1]
        exact bckR_none e2 ns.2
      · cases h
    · cases h
theorem bckR_at : ∀ {rows : List (Str × Str × Vw)} {m n g : Str → Option T}, bckR rows m n = some g → (rows.map fun r => r.2.1).Nodup → ∀ {nm part v}, (nm, part, v) ∈ rows → ∃ t u s, m part = some t ∧ n nm = some u ∧ bck v t u = some s ∧ g part = some s
  | (nm, part, v) :: r, m, n, g, h, nd, nm', part', v', hm => by
    unfold bckR at h
    split at h
    · rename_i t u et eu
      split at h
      · rename_i s' g' e1 e2
        cases h
        rw [List.map_cons, List.nodup_cons] at nd
        rcases List.mem_cons.mp hm with e | hm
        · cases e
          exact ⟨t, u, s', et, eu, e1, updM_same⟩
        · obtain ⟨t2, u2, s2, h1, h2, h3, h4⟩ := bckR_at e2 nd.2 hm
          refine ⟨t2, u2, s2, h1, h2, h3, ?_⟩
          rw [updM_ne fun z => nd.1 (by rw [← z]; exact List.mem_map.mpr ⟨_, hm, rfl⟩)]
          exact h4
      · cases h
    · cases h
theorem bckR_of : ∀ {rows : List (Str × Str × Vw)} {m n : Str → Option T}, (∀ nm part v, (nm, part, v) ∈ rows → ∃ t u s, m part = some t ∧ n nm = some u ∧ bck v t u = some s) → ∃ g, bckR rows m n = some g
  | [], _, _, _ => by unfold bckR; exact ⟨_, rfl⟩
  | (nm, part, v) :: r, m, n, h => by
    obtain ⟨t, u, s, e1, e2, e3⟩ := h nm part v List.mem_cons_self
    obtain ⟨g, e4⟩ := bckR_of (rows := r) (m := m) (n := n) fun a b c hm => h a b c (List.mem_cons_of_mem _ hm)
    unfold bckR
    rw [e1, e2]
    simp only [e3, e4]
    exact ⟨_, rfl⟩
end Vb
/-! Mu: what is shown, put back unchanged, is the tree; what was put back is shown. -/
namespace Vb
open PySem
open Classical
theorem or_some {α : Type} {o p : Option α} (h : o.isSome) : o.or p = o := by cases o with
  | none => cases h
  | some x => rfl
theorem ren_back {m : Str → Option T} {a b : Str} (ne : a ≠ b) (h : m b = none) : ren (ren m a b) b a = m := funext fun s => by
  unfold ren
  by_cases e : s = a
  · subst e; rw [if_pos rfl, if_pos rfl]
  · rw [if_neg e]
    by_cases e2 : s = b
    · subst e2; rw [if_pos rfl, h]
    · rw [if_neg e2, if_neg e2, if_neg e]
theorem shn_some {f : Str} {k : Int} {o : Option T} (h : ShnT f k o) : ∃ r, o = some (.node r) ∧ Shn f k r := by
  unfold ShnT at h
  split at h
  · exact ⟨_, rfl, h⟩
  · exact h.elim
/-- each row of a table, and none -/
theorem tab_cases {m : Str → Option T} (h : IsTab m) (s : Str) : m s = none ∨ ∃ r, m s = some (.node r) := by
  cases e : m s with
  | none => exact .inl rfl
  | some t =>
    obtain ⟨r, rfl⟩ := h s t e
    exact .inr ⟨r, rfl⟩
theorem both_at {p q : Str → Option T} {s : Str} {r r' : Str → Option T} (h1 : p s = some (.node r)) (h2 : q s = some (.node r')) : both p q s = some (.node fun x => (r' x).or (r x)) := by
  unfold both; rw [h1, h2]
theorem both_none1 {p q : Str → Option T} {s : Str} (h1 : p s = none) : both p q s = none := by
  unfold both; rw [h1]
theorem both_none2 {p q : Str → Option T} {s : Str} (h1 : q s = none) : both p q s = none := by
  unfold both; rw [h1]; split <;> simp_all
theorem both_tab {p q : Str → Option T} : IsTab (both p q) := fun s t h => by
  unfold both at h
  split at h
  · cases h; exact ⟨_, rfl⟩
  · cases h
theorem first_at {fs : List Str} {p q n : Str → Option T} {s : Str} {r : Str → Option T} (h : n s = some (.node r)) : first fs p q n s = some (.node fun x => if x ∈ fs then r x else none) := by unfold first; rw [h]
theorem first_no {fs : List Str} {p q n : Str → Option T} {s : Str} (h : n s = none) : first fs p q n s = if q s = none then p s else none := by unfold first; rw [h]
theorem second_at {fs : List Str} {p q n : Str → Option T} {s : Str} {r : Str → Option T} (h : n s = some (.node r)) : second fs p q n s = some (.node fun x => if x ∈ fs then none else r x) := by unfold second; rw [h]
theorem second_no {fs : List Str} {p q n : Str → Option T} {s : Str} (h : n s = none) : second fs p q n s = if p s = none then q s else none := by unfold second; rw [h]
theorem node_inj {a b : Str → Option T} (h : (T.node a) = .node b) : a = b := by cases h; rfl
/-- what is shown, put back -/
theorem getPut : ∀ {v : Vw}, VOk v → ∀ {t s : T}, shw v t = some s → bck v t s = some t := by
  intro v ok
  induction ok with
  | whole =>
    intro t s h
    unfold shw at h; cases h
    unfold bck; rfl
  | pick x =>
    intro t s h
    cases t with
    | num i => unfold shw at h; cases h
    | node m =>
      unfold shw at h
      unfold bck
      rw [updM_self h]
  | @call a b ne =>
    intro t s h
    cases t with
    | num i => unfold shw at h; cases h
    | node m =>
      unfold shw at h
      split at h
      · rename_i c
        cases h
        unfold bck
        have e1 : ren m a b b = m a := if_pos rfl
        have e2 : ren m a b a = none := by unfold ren; rw [if_neg ne, if_pos rfl]
        rw [if_pos ⟨by rw [e1]; exact c.1, e2⟩, ren_back ne c.2]
      · cases h
  | sift f k =>
    intro t s h
    cases t with
    | num i => unfold shw at h; cases h
    | node m =>
      unfold shw at h
      split at h
      · rename_i c
        cases h
        unfold bck
        have k1 : IsTab fun s => sft f k (m s) := fun s t h => by
          dsimp only at h
          by_cases e : ShnT f k (m s)
          · rw [sft_y e] at h; exact c s t h
          · rw [sft_n e] at h; cases h
        have k2 : ∀ s t, sft f k (m s) = some t → ShnT f k (some t) := fun s t h => by
          by_cases e : ShnT f k (m s)
          · rw [sft_y e] at h; rw [h] at e; exact e
          · rw [sft_n e] at h; cases h
        have k3 : ∀ s t, m s = some t → ¬ ShnT f k (some t) → sft f k (m s) = none := fun s t h1 h2 => sft_n (by rw [h1]; exact h2)
        rw [if_pos ⟨k1, k2, k3⟩]
        congr 2
        funext s
        dsimp only
        by_cases e : ShnT f k (m s)
        · rw [sft_y e, nsf_y e]
          obtain ⟨r, h, _⟩ := shn_some e
          rw [h]; rfl
        · rw [sft_n e, nsf_n e]; rfl
      · cases h
  | @join a b fs ne =>
    intro t s h
    cases t with
    | num i => unfold shw at h; cases h
    | node m =>
      unfold shw at h
      split at h
      · rename_i p q ep eq
        split at h
        · rename_i c
          obtain ⟨c1, c2, c3, c4⟩ := c
          cases h
          unfold bck
          rw [ep, eq]
          dsimp only
          have lone : Lone p q (both p q) := fun s h => by
            rcases tab_cases c1 s with h1 | ⟨r, h1⟩
            · rw [both_none1 h1] at h; cases h
            · rcases tab_cases c2 s with h2 | ⟨r', h2⟩
              · rw [both_none2 h2] at h; cases h
              · rw [h1, h2]; rfl
          rw [if_pos ⟨both_tab, lone⟩]
          have ef : first fs p q (both p q) = p := funext fun s => by
            rcases tab_cases c1 s with h1 | ⟨r, h1⟩
            · rw [first_no (both_none1 h1), h1]; split <;> rfl
            · rcases tab_cases c2 s with h2 | ⟨r', h2⟩
              · rw [first_no (both_none2 h2), if_pos h2]
              · rw [first_at (both_at h1 h2), h1]
                congr 2
                funext x
                by_cases e : x ∈ fs
                · rw [if_pos e]
                  have : r' x = none := by
                    cases e2 : r' x with
                    | none => rfl
                    | some y => exact absurd e (c4 s r' x h2 (by rw [e2]; rfl))
                  rw [this]; rfl
                · rw [if_neg e]
                  cases e2 : r x with
                  | none => rfl
                  | some y => exact absurd (c3 s r x h1 (by rw [e2]; rfl)) e
          have es : second fs p q (both p q) = q := funext fun s => by
            rcases tab_cases c1 s with h1 | ⟨r, h1⟩
            · rw [second_no (both_none1 h1), if_pos h1]
            · rcases tab_cases c2 s with h2 | ⟨r', h2⟩
              · rw [second_no (both_none2 h2), h2, h1]; simp
              · rw [second_at (both_at h1 h2), h2]
                congr 2
                funext x
                by_cases e : x ∈ fs
                · rw [if_pos e]
                  cases e2 : r' x with
                  | none => rfl
                  | some y => exact absurd e (c4 s r' x h2 (by rw [e2]; rfl))
                · rw [if_neg e]
                  have : r x = none := by
                    cases e2 : r x with
                    | none => rfl
                    | some y => exact absurd (c3 s r x h1 (by rw [e2]; rfl)) e
                  rw [this]
                  cases r' x <;> rfl
          rw [ef, es, updM_self ep, updM_self eq]
        · cases h
      · cases h
  | @beside rows nd nd2 hr ih =>
    intro t s h
    cases t with
    | num i => unfold shw at h; cases h
    | node m =>
      unfold shw at h
      obtain ⟨g, hg, e⟩ := Option.map_eq_some_iff.mp h
      subst e
      unfold bck
      rw [if_pos fun s => shwR_dom hg]
      obtain ⟨g', hg'⟩ := bckR_of (rows := rows) (m := m) (n := g) fun nm part v hm => by
        obtain ⟨t, s, e1, e2, e3⟩ := shwR_at hg nd hm
        exact ⟨t, s, t, e1, e3, ih _ hm e2⟩
      rw [hg']
      show some (T.node fun s => (g' s).or (m s)) = some (T.node m)
      congr 2
      funext s
      by_cases e : s ∈ rows.map fun r => r.2.1
      · obtain ⟨⟨nm, part, v⟩, hm, e2⟩ := List.mem_map.mp e
        dsimp only at e2
        subst e2
        obtain ⟨t, u, s', e1, e2, e3, e4⟩ := bckR_at hg' nd2 hm
        obtain ⟨t', s2, f1, f2, f3⟩ := shwR_at hg nd hm
        rw [e1] at f1; cases f1
        rw [e2] at f3; cases f3
        rw [ih _ hm f2] at e3
        cases e3
        rw [e4, e1]; rfl
      · rw [bckR_none hg' e]; rfl
  | @each v hv ih =>
    intro t s h
    cases t with
    | num i => unfold shw at h; cases h
    | node m =>
      unfold shw at h
      split at h
      · rename_i c
        cases h
        unfold bck
        have k1 : ∀ s, ((m s).bind (shw v)).isSome ↔ (m s).isSome := fun s => by
          cases e : m s with
          | none => simp
          | some t =>
            obtain ⟨u, hu⟩ := Option.isSome_iff_exists.mp (c s t e)
            simp [hu]
        have k2 : ∀ s t u, m s = some t → (m s).bind (shw v) = some u → (bck v t u).isSome := fun s t u h1 h2 => by
          rw [h1] at h2
          have h2 : shw v t = some u := h2
          rw [ih h2]; rfl
        rw [if_pos ⟨k1, k2⟩]
        congr 2
        funext s
        cases e : m s with
        | none => rfl
        | some t =>
          obtain ⟨u, hu⟩ := Option.isSome_iff_exists.mp (c s t e)
          have e2 : (m s).bind (shw v) = some u := by rw [e]; exact hu
          dsimp only
          rw [e2]
          exact ih hu
      · cases h
  | @thn v w hv hw ihv ihw =>
    intro t s h
    unfold shw at h
    obtain ⟨mid, h1, h2⟩ := Option.bind_eq_some_iff.mp h
    unfold bck
    rw [h1]
    dsimp only
    rw [ihw h2]
    exact ihv h1
/-- what was put back is shown -/
theorem putGet : ∀ {v : Vw}, VOk v → ∀ {t n t' : T}, (shw v t).isSome → bck v t n = some t' → shw v t' = some n := by
  intro v ok
  induction ok with
  | whole =>
    intro t n t' _ h
    unfold bck at h; cases h
    unfold shw; rfl
  | pick x =>
    intro t n t' _ h
    cases t with
    | num i => unfold bck at h; cases h
    | node m =>
      unfold bck at h; cases h
      unfold shw
      exact updM_same
  | @call a b ne =>
    intro t n t' _ h
    cases n with
    | num i => unfold bck at h; cases h
    | node n =>
      unfold bck at h
      split at h
      · rename_i c
        cases h
        unfold shw
        have e1 : ren n b a a = n b := if_pos rfl
        have e2 : ren n b a b = none := by unfold ren; rw [if_neg (Ne.symm ne), if_pos rfl]
        rw [if_pos ⟨by rw [e1]; exact c.1, e2⟩, ren_back (Ne.symm ne) c.2]
      · cases h
  | sift f k =>
    intro t n t' hs h
    cases t with
    | num i => unfold bck at h; cases h
    | node m =>
      cases n with
      | num i => unfold bck at h; cases h
      | node n =>
        unfold bck at h
        split at h
        · rename_i c
          obtain ⟨c1, c2, c3⟩ := c
          cases h
          have tm : IsTab m := by
            unfold shw at hs
            split at hs
            · assumption
            · cases hs
          unfold shw
          have k1 : IsTab fun s => (n s).or (nsf f k (m s)) := fun s t h => by
            dsimp only at h
            cases e : n s with
            | some u => rw [e] at h; cases h; exact c1 s _ e
            | none =>
              rw [e] at h
              simp only [Option.none_or] at h
              by_cases e2 : ShnT f k (m s)
              · rw [nsf_y e2] at h; cases h
              · rw [nsf_n e2] at h; exact tm s t h
          rw [if_pos k1]
          congr 2
          funext s
          cases e : n s with
          | some t =>
            dsimp only
            rw [e]
            exact sft_y (c2 s t e)
          | none =>
            dsimp only
            rw [e, Option.none_or]
            by_cases e2 : ShnT f k (m s)
            · rw [nsf_y e2]; exact sft_n fun z => z
            · rw [nsf_n e2]; exact sft_n e2
        · cases h
  | @join a b fs ne =>
    intro t n t' hs h
    cases t with
    | num i => unfold bck at h; cases h
    | node m =>
      cases n with
      | num i => unfold bck at h; cases h
      | node n =>
        unfold bck at h
        split at h
        · rename_i p q ep eq
          split at h
          · rename_i c
            obtain ⟨c1, c2⟩ := c
            cases h
            unfold shw at hs
            rw [ep, eq] at hs
            dsimp only at hs
            split at hs
            · rename_i d
              obtain ⟨d1, d2, d3, d4⟩ := d
              unfold shw
              rw [updM_same, updM_ne ne, updM_same]
              dsimp only
              have t1 : IsTab (first fs p q n) := fun s t h => by
                rcases tab_cases c1 s with e | ⟨r, e⟩
                · rw [first_no e] at h
                  split at h
                  · exact d1 s t h
                  · cases h
                · rw [first_at e] at h; cases h; exact ⟨_, rfl⟩
              have t2 : IsTab (second fs p q n) := fun s t h => by
                rcases tab_cases c1 s with e | ⟨r, e⟩
                · rw [second_no e] at h
                  split at h
                  · exact d2 s t h
                  · cases h
                · rw [second_at e] at h; cases h; exact ⟨_, rfl⟩
              have f1 : FldIn fs (first fs p q n) := fun s r x h hx => by
                rcases tab_cases c1 s with e | ⟨r', e⟩
                · rw [first_no e] at h
                  split at h
                  · exact d3 s r x h hx
                  · cases h
                · rw [first_at e] at h
                  cases h
                  dsimp only at hx
                  by_cases z : x ∈ fs
                  · exact z
                  · rw [if_neg z] at hx; cases hx
              have f2 : FldOut fs (second fs p q n) := fun s r x h hx => by
                rcases tab_cases c1 s with e | ⟨r', e⟩
                · rw [second_no e] at h
                  split at h
                  · exact d4 s r x h hx
                  · cases h
                · rw [second_at e] at h
                  cases h
                  dsimp only at hx
                  by_cases z : x ∈ fs
                  · rw [if_pos z] at hx; cases hx
                  · exact z
              rw [if_pos ⟨t1, t2, f1, f2⟩]
              congr 2
              funext s
              rcases tab_cases c1 s with e | ⟨r, e⟩
              · rw [e]
                cases ep' : p s with
                | none => rw [both_none1]; rw [first_no e, ep']; split <;> rfl
                | some t => rw [both_none2]; rw [second_no e, if_neg (by rw [ep']; simp)]
              · rw [both_at (first_at e) (second_at e), e]
                congr 2
                funext x
                by_cases z : x ∈ fs
                · rw [if_pos z, if_pos z]; rfl
                · rw [if_neg z, if_neg z]; cases r x <;> rfl
            · cases hs
          · cases h
        · cases h
  | @beside rows nd nd2 hr ih =>
    intro t n t' hs h
    cases t with
    | num i => unfold bck at h; cases h
    | node m =>
      cases n with
      | num i => unfold bck at h; cases h
      | node n =>
        unfold bck at h
        split at h
        · rename_i c
          obtain ⟨g, hg, e⟩ := Option.map_eq_some_iff.mp h
          subst e
          unfold shw at hs ⊢
          obtain ⟨gs, hgs⟩ := Option.isSome_iff_exists.mp (by rw [Option.isSome_map] at hs; exact hs)
          obtain ⟨g2, hg2⟩ := shwR_of (rows := rows) (m := fun s => (g s).or (m s)) fun nm part v hm => by
            obtain ⟨t, u, s, e1, e2, e3, e4⟩ := bckR_at hg nd2 hm
            obtain ⟨t2, s2, f1, f2, f3⟩ := shwR_at hgs nd hm
            rw [e1] at f1; cases f1
            exact ⟨s, u, by rw [e4]; rfl, ih _ hm (by rw [f2]; rfl) e3⟩
          rw [hg2]
          show some _ = _
          congr 2
          funext x
          by_cases e : x ∈ rows.map (·.1)
          · obtain ⟨⟨nm, part, v⟩, hm, e2⟩ := List.mem_map.mp e
            dsimp only at e2
            subst e2
            obtain ⟨t, u, s, e1, e2, e3, e4⟩ := bckR_at hg nd2 hm
            obtain ⟨t2, s2, f1, f2, f3⟩ := shwR_at hgs nd hm
            rw [e1] at f1; cases f1
            obtain ⟨t3, s3, k1, k2, k3⟩ := shwR_at hg2 nd hm
            rw [e4] at k1
            cases k1
            rw [ih _ hm (by rw [f2]; rfl) e3] at k2
            cases k2
            rw [k3, e2]
          · rw [shwR_none hg2 e]
            cases e2 : n x with
            | none => rfl
            | some y => exact absurd ((c x).mp (by rw [e2]; rfl)) e
        · cases h
  | @each v hv ih =>
    intro t n t' hs h
    cases t with
    | num i => unfold bck at h; cases h
    | node m =>
      cases n with
      | num i => unfold bck at h; cases h
      | node n =>
        unfold bck at h
        split at h
        · rename_i c
          obtain ⟨c1, c2⟩ := c
          cases h
          unfold shw at hs
          split at hs
          · rename_i d
            unfold shw
            have at_ : ∀ s t, m s = some t → ∃ u t2, n s = some u ∧ bck v t u = some t2 ∧ shw v t2 = some u := fun s t e => by
              obtain ⟨u, hu⟩ := Option.isSome_iff_exists.mp ((c1 s).mpr (by rw [e]; rfl))
              obtain ⟨t2, ht⟩ := Option.isSome_iff_exists.mp (c2 s t u e hu)
              exact ⟨u, t2, hu, ht, ih (d s t e) ht⟩
            rw [if_pos]
            · congr 2
              funext s
              dsimp only
              cases e : m s with
              | none =>
                cases e2 : n s with
                | none => rfl
                | some y =>
                  have := (c1 s).mp (by rw [e2]; rfl)
                  rw [e] at this; cases this
              | some t =>
                obtain ⟨u, t2, h1, h2, h3⟩ := at_ s t e
                rw [h1]
                dsimp only
                rw [h2]
                exact h3
            · intro s t h
              dsimp only at h
              cases e : m s with
              | none => rw [e] at h; cases h
              | some t0 =>
                obtain ⟨u, t2, h1, h2, h3⟩ := at_ s t0 e
                rw [e, h1] at h
                dsimp only at h
                rw [h2] at h
                cases h
                rw [h3]; rfl
          · cases hs
        · cases h
  | @thn v w hv hw ihv ihw =>
    intro t n t' hs h
    unfold shw at hs
    unfold bck at h
    cases e : shw v t with
    | none => rw [e] at h; cases h
    | some mid =>
      rw [e] at h hs
      obtain ⟨m2, h1, h2⟩ := Option.bind_eq_some_iff.mp h
      have k1 := ihw hs h1
      have k2 := ihv (by rw [e]; rfl) h2
      unfold shw
      rw [k2]
      exact k1
end Vb
/-! Mv: tables as data, with names as keys; comprehensions. -/
namespace Vb
open PySem L2
/-! ### tables with names as keys -/
def dk (kv : List (Str × D)) : List (D × D) := kv.map fun p => (.str p.1, p.2)
theorem keq_str (a b : Str) : keq (.str a) (.str b) = decide (a = b) := rfl
theorem dk_nil : dk [] = [] := rfl
theorem dk_cons (s : Str) (d : D) (kv : List (Str × D)) : dk ((s, d) :: kv) = (.str s, d) :: dk kv := rfl
theorem dk_append (a b : List (Str × D)) : dk (a ++ b) = dk a ++ dk b := List.map_append
theorem dk_length (kv : List (Str × D)) : (dk kv).length = kv.length := List.length_map _
theorem dk_keys (kv : List (Str × D)) : (dk kv).map (·.1) = (kv.map (·.1)).map PyData.str := by unfold dk; rw [List.map_map, List.map_map]; rfl
theorem lookup_cons_str (s x : Str) (d : D) (kv : List (Str × D)) : List.lookup x ((s, d) :: kv) = if x = s then some d else List.lookup x kv := by
  by_cases e : x = s
  · subst e; rw [List.lookup_cons_self, if_pos rfl]
  · have : (x == s) = false := by simpa using e
    rw [List.lookup_cons, this, if_neg e]
theorem dget_dk (x : Str) : ∀ kv : List (Str × D), dget (dk kv) (.str x) = kv.lookup x
  | [] => rfl
  | (s, d) :: kv => by
    rw [dk_cons, lookup_cons_str]
    unfold dget
    by_cases e : x = s
    · subst e
      rw [List.find?_cons_of_pos (by rw [keq_str]; simp), if_pos rfl]; rfl
    · rw [List.find?_cons_of_neg (by rw [keq_str]; simp; exact fun z => e z.symm), if_neg e]
      exact dget_dk x kv
/-- the keys of a table -/
def keysK (kv : List (Str × D)) : List Str := kv.map (·.1)
theorem lookup_some_mem {x : Str} {d : D} : ∀ {kv : List (Str × D)}, kv.lookup x = some d → (x, d) ∈ kv
  | [], h => by cases h
  | (s, e) :: kv, h => by
    rw [lookup_cons_str] at h
    split at h
    · rename_i z; subst z; cases h; exact List.mem_cons_self
    · exact List.mem_cons_of_mem _ (lookup_some_mem h)
theorem lookup_isSome {x : Str} : ∀ {kv : List (Str × D)}, (kv.lookup x).isSome ↔ x ∈ keysK kv
  | [] => by simp [keysK]
  | (s, e) :: kv => by
    rw [lookup_cons_str, keysK, List.map_cons, List.mem_cons]
    split
    · rename_i z; simp [z]
    · rename_i z; rw [lookup_isSome]; simp [z, keysK]
theorem lookup_of_mem {x : Str} {d : D} : ∀ {kv : List (Str × D)}, (keysK kv).Nodup → (x, d) ∈ kv → kv.lookup x = some d
  | (s, e) :: kv, nd, h => by
    rw [keysK, List.map_cons, List.nodup_cons] at nd
    rw [lookup_cons_str]
    rcases List.mem_cons.mp h with h | h
    · cases h; rw [if_pos rfl]
    · rw [if_neg fun z => nd.1 (by rw [← z]; exact List.mem_map.mpr ⟨_, h, rfl⟩)]
      exact lookup_of_mem nd.2 h
/-- x[s] = d -/
def kput (kv : List (Str × D)) (s : Str) (d : D) : List (Str × D) := if s ∈ keysK kv then kv.map (fun p => if p.1 = s then (p.1, d) else p) else kv ++ [(s, d)]
def kdrop (kv : List (Str × D)) (s : Str) : List (Str × D) := kv.filter fun p => !decide (p.1 = s)
theorem dput_dk (kv : List (Str × D)) (s : Str) (d : D) : dput (dk kv) (.str s) d = dk (kput kv s d) := by
  unfold dput kput
  have e : ((dk kv).any fun p => keq p.1 (.str s)) = decide (s ∈ keysK kv) := by
    unfold dk keysK
    rw [List.any_map]
    rw [Bool.eq_iff_iff]
    simp only [List.any_eq_true, decide_eq_true_eq, List.mem_map, Function.comp, keq_str]
  rw [e]
  by_cases h : s ∈ keysK kv
  · rw [if_pos (by simpa using h), if_pos h]
    unfold dk
    rw [List.map_map, List.map_map]
    refine List.map_congr_left fun p _ => ?_
    simp only [Function.comp, keq_str]
    by_cases e : p.1 = s
    · simp [e]
    · simp [e]
  · rw [if_neg (by simpa using h), if_neg h, dk_append]; rfl
theorem ddrop_dk (kv : List (Str × D)) (s : Str) : ddrop (dk kv) (.str s) = dk (kdrop kv s) := by
  unfold ddrop dk kdrop
  rw [List.filter_map]
  congr 1
theorem kput_keys (kv : List (Str × D)) (s : Str) (d : D) : keysK (kput kv s d) = if s ∈ keysK kv then keysK kv else keysK kv ++ [s] := by
  unfold kput
  split
  · unfold keysK
    rw [List.map_map]
    refine List.map_congr_left fun p _ => ?_
    simp only [Function.comp]
    split <;> rfl
  · unfold keysK; rw [List.map_append]; rfl
theorem kput_nodup {kv : List (Str × D)} {s : Str} {d : D} (h : (keysK kv).Nodup) : (keysK (kput kv s d)).Nodup := by
  rw [kput_keys]
  split
  · exact h
  · rename_i n
    refine List.nodup_append.mpr ⟨h, by simp, fun a ha b hb => ?_⟩
    rw [List.mem_singleton] at hb
    subst hb
    exact fun z => n (z ▸ ha)
theorem kput_mem {kv : List (Str × D)} {s x : Str} {d : D} : x ∈ keysK (kput kv s d) ↔ x = s ∨ x ∈ keysK kv := by
  rw [kput_keys]
  split
  · rename_i h
    constructor
    · exact .inr
    · rintro (rfl | z)
      · exact h
      · exact z
  · simp [or_comm]
theorem lookup_append_str (x : Str) : ∀ (a b : List (Str × D)), (a ++ b).lookup x = (a.lookup x).or (b.lookup x)
  | [], b => by simp
  | (s, d) :: a, b => by
    rw [List.cons_append, lookup_cons_str, lookup_cons_str]
    split
    · rfl
    · exact lookup_append_str x a b
theorem lookup_kput (kv : List (Str × D)) (s x : Str) (d : D) : (kput kv s d).lookup x = if x = s then some d else kv.lookup x := by
  unfold kput
  split
  · rename_i h
    have key : ∀ kv : List (Str × D), (kv.map fun p => if p.1 = s then (p.1, d) else p).lookup x = if x = s then (if s ∈ keysK kv then some d else none) else kv.lookup x := by
      intro kv
      induction kv with
      | nil => simp [keysK]
      | cons p kv ih =>
        obtain ⟨y, e⟩ := p
        rw [List.map_cons]
        by_cases h1 : y = s
        · subst h1
          simp only [if_true]
          rw [lookup_cons_str, lookup_cons_str, ih]
          by_cases h2 : x = y
          · simp [h2, keysK]
          · simp [h2]
        · simp only [if_neg h1]
          rw [lookup_cons_str, lookup_cons_str, ih]
          by_cases h2 : x = y
          · have : x ≠ s := fun z => h1 (h2.symm.trans z)
            simp [h2, h1]
          · by_cases h3 : x = s
            · subst h3
              have e2 : (x ∈ keysK ((y, e) :: kv)) = (x ∈ keysK kv) := by simp [keysK, h2]
              simp only [if_neg h2, if_true, e2]
            · simp [h2, h3]
    rw [key, if_pos h]
  · rename_i h
    rw [lookup_append_str, lookup_cons_str]
    by_cases e : x = s
    · subst e
      have : kv.lookup x = none := by
        cases z : kv.lookup x with
        | none => rfl
        | some y => exact absurd (lookup_isSome.mp (by rw [z]; rfl)) h
      rw [this]; simp
    · simp [e]
theorem lookup_kdrop (kv : List (Str × D)) (s x : Str) : (kdrop kv s).lookup x = if x = s then none else kv.lookup x := by
  unfold kdrop
  induction kv with
  | nil => simp
  | cons p kv ih =>
    obtain ⟨y, e⟩ := p
    by_cases h1 : y = s
    · subst h1
      rw [List.filter_cons_of_neg (by simp), ih, lookup_cons_str]
      by_cases h2 : x = y
      · simp [h2]
      · simp [h2]
    · rw [List.filter_cons_of_pos (by simp [h1]), lookup_cons_str, lookup_cons_str, ih]
      by_cases h2 : x = y
      · have : ¬ y = s := h1
        simp [h2, this]
      · simp [h2]
theorem kdrop_sub {kv : List (Str × D)} {s : Str} : (keysK (kdrop kv s)).Sublist (keysK kv) := by
  unfold keysK kdrop
  exact List.Sublist.map _ List.filter_sublist
/-- a list of pairs as a table -/
def kmerge (kv more : List (Str × D)) : List (Str × D) := more.foldl (fun acc p => kput acc p.1 p.2) kv
theorem dmerge_dk : ∀ (more kv : List (Str × D)), dmerge (dk kv) (dk more) = dk (kmerge kv more)
  | [], kv => rfl
  | (s, d) :: more, kv => by
    rw [dk_cons]
    show dmerge (dput (dk kv) (.str s) d) (dk more) = dk (kmerge (kput kv s d) more)
    rw [dput_dk, dmerge_dk more]
theorem kmerge_new : ∀ (more kv : List (Str × D)), (keysK more).Nodup → (∀ x ∈ keysK more, x ∉ keysK kv) → kmerge kv more = kv ++ more
  | [], kv, _, _ => by simp [kmerge]
  | (s, d) :: more, kv, nd, h => by
    rw [keysK, List.map_cons, List.nodup_cons] at nd
    have hs : s ∉ keysK kv := h s (by simp [keysK])
    show kmerge (kput kv s d) more = _
    have e : kput kv s d = kv ++ [(s, d)] := by unfold kput; rw [if_neg hs]
    rw [e, kmerge_new more _ nd.2 fun x hx => ?_]
    · simp
    · intro z
      unfold keysK at z hx
      rw [List.map_append, List.mem_append] at z
      rcases z with z | z
      · exact h x (by unfold keysK; rw [List.map_cons]; exact List.mem_cons_of_mem _ hx) z
      · have : x = s := by simpa using z
        subst this
        exact nd.1 hx
theorem kmerge_self {kv : List (Str × D)} (nd : (keysK kv).Nodup) : kmerge [] kv = kv := by
  rw [kmerge_new kv [] nd (by intro x _ h; cases h)]; rfl
theorem lookup_kmerge (x : Str) : ∀ (more kv : List (Str × D)), (keysK more).Nodup → (kmerge kv more).lookup x = (more.lookup x).or (kv.lookup x)
  | [], kv, _ => by simp [kmerge]
  | (s, d) :: more, kv, nd => by
    rw [keysK, List.map_cons, List.nodup_cons] at nd
    show (kmerge (kput kv s d) more).lookup x = _
    rw [lookup_kmerge x more _ nd.2, lookup_kput, lookup_cons_str]
    by_cases e : x = s
    · subst e
      have : more.lookup x = none := by
        cases z : more.lookup x with
        | none => rfl
        | some y => exact absurd (lookup_isSome.mp (by rw [z]; rfl)) nd.1
      rw [this]; simp
    · simp [e]
theorem kmerge_nodup : ∀ (more kv : List (Str × D)), (keysK kv).Nodup → (keysK (kmerge kv more)).Nodup
  | [], kv, h => h
  | (s, d) :: more, kv, h => kmerge_nodup more _ (kput_nodup h)
theorem kmerge_mem {x : Str} : ∀ (more kv : List (Str × D)), x ∈ keysK (kmerge kv more) ↔ x ∈ keysK more ∨ x ∈ keysK kv
  | [], kv => by simp [kmerge, keysK]
  | (s, d) :: more, kv => by
    show x ∈ keysK (kmerge (kput kv s d) more) ↔ _
    rw [kmerge_mem more, kput_mem]
    unfold keysK
    rw [List.map_cons, List.mem_cons]
    constructor
    · rintro (h | h | h)
      · exact .inl (.inr h)
      · exact .inl (.inl h)
      · exact .inr h
    · rintro ((h | h) | h)
      · exact .inr (.inl h)
      · exact .inl h
      · exact .inr (.inr h)
/-! ### comprehensions -/
theorem compL_map {b : Bd} {t e : Ev} {Γ : Env} {p : D → Bool} {f : D → D} : ∀ {ds : List D}, (∀ d ∈ ds, ∃ Γ1, b d Γ = some Γ1 ∧ (∃ m, t Γ1 = .ok m (.bool (p d))) ∧ (p d = true → ∃ m, eDat e Γ1 = .ok m (f d))) →
    compL b t e Γ ds = .ok ((ds.filter p).map f)
  | [], _ => rfl
  | d :: ds, h => by
    obtain ⟨Γ1, h1, ⟨m, h2⟩, h3⟩ := h d List.mem_cons_self
    have ih := compL_map (b := b) (t := t) (e := e) (Γ := Γ) (p := p) (f := f) (ds := ds) fun x hx => h x (List.mem_cons_of_mem _ hx)
    unfold compL
    rw [h1]
    dsimp only
    rw [h2]
    cases hp : p d with
    | false =>
      dsimp only
      rw [ih, List.filter_cons_of_neg (by rw [hp]; simp)]
    | true =>
      obtain ⟨m', h4⟩ := h3 hp
      dsimp only
      rw [h4]
      dsimp only
      rw [ih, List.filter_cons_of_pos hp]
      rfl
theorem eLC_ok {vs : List Nat} {fi : EvI} {b : Bd} {t e : Ev} {Γ : Env} {ds l : List D} (h1 : fi Γ = .ok ds) (h2 : ds.length ≤ 1000) (h3 : compL b t e (wipeE Γ vs) ds = .ok l) : eLC vs fi b t e Γ = .ok .own (.list l) := by
  unfold eLC
  rw [h1]
  dsimp only
  rw [if_pos h2, h3]
theorem bools_map : ∀ (bs : List Bool), bools (bs.map PyData.bool) = some bs
  | [] => rfl
  | b :: bs => by
    show (bools (bs.map PyData.bool)).map (b :: ·) = some (b :: bs)
    rw [bools_map bs]; rfl
theorem txts_map : ∀ (xs : List Str), txts (xs.map PyData.str) = some xs
  | [] => rfl
  | x :: xs => by
    show (txts (xs.map PyData.str)).map (x :: ·) = some (x :: xs)
    rw [txts_map xs]; rfl
theorem pairs_dk : ∀ (kv : List (Str × D)), pairs (kv.map fun p => PyData.tuple [.str p.1, p.2]) = some (dk kv)
  | [] => rfl
  | (s, d) :: kv => by
    show (if isKey (.str s) = true then (pairs (kv.map fun p => PyData.tuple [.str p.1, p.2])).map ((PyData.str s, d) :: ·) else none) = _
    rw [pairs_dk kv]; rfl
/-- a loop whose body goes on -/
theorem loopS_inv {b : Bd} {f : Ss} (I : List D → Env → Prop) : ∀ {ds done : List D} {Γ : Env}, I done Γ → (∀ d done Γ, d ∈ ds → I done Γ → ∃ Γ1 Γ2, b d Γ = some Γ1 ∧ f Γ1 = .nx Γ2 ∧ I (done ++ [d]) Γ2) → ∃ Γ', loopS b f ds Γ = .nx Γ' ∧ I (done ++ ds) Γ'
  | [], done, Γ, h, _ => ⟨Γ, rfl, by rw [List.append_nil]; exact h⟩
  | d :: ds, done, Γ, h, st => by
    obtain ⟨Γ1, Γ2, h1, h2, h3⟩ := st d done Γ List.mem_cons_self h
    obtain ⟨Γ', h4, h5⟩ := loopS_inv I (ds := ds) (done := done ++ [d]) h3 fun x dn G hx => st x dn G (List.mem_cons_of_mem _ hx)
    refine ⟨Γ', ?_, by rw [List.append_assoc] at h5; exact h5⟩
    unfold loopS
    rw [h1]
    dsimp only
    rw [h2]
    exact h4
end Vb
/-! Mx: how the semantic functions run: equations. -/
namespace Vb
open PySem L2
def slotO : Option SV → Out
  | some (.dat d) => .ok .dat d
  | some (.own d) => .ok .bor d
  | _ => .stuck
@[simp] theorem slotO_dat (d : D) : slotO (some (.dat d)) = .ok .dat d := rfl
@[simp] theorem slotO_own (d : D) : slotO (some (.own d)) = .ok .bor d := rfl
@[simp] theorem eVar_eq (i : Nat) (Γ : Env) : eVar i Γ = slotO Γ[i]? := by unfold eVar slotO; rfl
@[simp] theorem eC_eq (d : D) (Γ : Env) : eC d Γ = .ok .dat d := rfl
@[simp] theorem eDat_eq (f : Ev) (Γ : Env) : eDat f Γ = (f Γ).dat := rfl
@[simp] theorem dat_dat (d : D) : (Out.ok .dat d).dat = .ok .dat d := rfl
@[simp] theorem dat_own (d : D) : (Out.ok .own d).dat = .ok .dat d := rfl
@[simp] theorem dat_err (x : Exn) : (Out.err x).dat = .err x := rfl
@[simp] theorem bind_ok (m : Md) (d : D) (f : Md → D → Out) : (Out.ok m d).bind f = f m d := rfl
@[simp] theorem bind_err (x : Exn) (f : Md → D → Out) : (Out.err x).bind f = .err x := rfl
def ofP : Option (Md × D) → Out
  | some (m, d) => .ok m d
  | none => .stuck
@[simp] theorem ofP_some (m : Md) (d : D) : ofP (some (m, d)) = .ok m d := rfl
@[simp] theorem out2_eq (g : D → D → Option (Md × D)) (x y : D) : out2 g x y = ofP (g x y) := by unfold out2 ofP; rfl
@[simp] theorem outL_eq (g : List D → Option (Md × D)) (l : List (Md × D)) : outL g l = ofP (g (l.map (·.2))) := by unfold outL ofP; rfl
@[simp] theorem eBin_eq (g : D → D → Option (Md × D)) (a b : Ev) (Γ : Env) : eBin g a b Γ = (a Γ).bind fun _ x => (b Γ).bind fun _ y => out2 g x y := rfl
@[simp] theorem eAnd_eq (a b : Ev) (Γ : Env) : eAnd a b Γ = (a Γ).ifB (b Γ) (oB false) := rfl
@[simp] theorem eOr_eq (a b : Ev) (Γ : Env) : eOr a b Γ = (a Γ).ifB (oB true) (b Γ) := rfl
@[simp] theorem eNot_eq (a : Ev) (Γ : Env) : eNot a Γ = (a Γ).ifB (oB false) (oB true) := rfl
@[simp] theorem eIte_eq (c a b : Ev) (Γ : Env) : eIte c a b Γ = (c Γ).ifB (a Γ) (b Γ) := rfl
@[simp] theorem oB_eq (b : Bool) : oB b = .ok .dat (.bool b) := rfl
@[simp] theorem ifB_ok (m : Md) (b : Bool) (t e : Out) : (Out.ok m (.bool b)).ifB t e = cond b t e := by cases b <;> rfl
@[simp] theorem ifB_err (x : Exn) (t e : Out) : (Out.err x).ifB t e = .err x := rfl
@[simp] theorem bind_cond (b : Bool) (x y : Out) (f : Md → D → Out) : (cond b x y).bind f = cond b (x.bind f) (y.bind f) := by cases b <;> rfl
@[simp] theorem dat_cond (b : Bool) (x y : Out) : (cond b x y).dat = cond b x.dat y.dat := by cases b <;> rfl
@[simp] theorem ifB_cond (b : Bool) (x y t e : Out) : (cond b x y).ifB t e = cond b (x.ifB t e) (y.ifB t e) := by cases b <;> rfl
def chain (g g' : D → D → Option (Md × D)) (x y : D) (c : Out) : Out := match g x y with
  | some (_, .bool true) => c.bind fun _ z => out2 g' y z
  | some (_, .bool false) => oB false
  | _ => .stuck
theorem chain_ok {g g' : D → D → Option (Md × D)} {x y : D} {c : Out} {m : Md} {b : Bool} (h : g x y = some (m, .bool b)) : chain g g' x y c = cond b (c.bind fun _ z => out2 g' y z) (oB false) := by
  unfold chain; rw [h]; cases b <;> rfl
@[simp] theorem eChain_eq (g g' : D → D → Option (Md × D)) (a b c : Ev) (Γ : Env) : eChain g g' a b c Γ = (a Γ).bind fun _ x => (b Γ).bind fun _ y => chain g g' x y (c Γ) := rfl
/-! arguments -/
def OutA.push (o : Out) (r : OutA) : OutA := match o with
  | .ok m d => (match r with
    | .ok l => .ok ((m, d) :: l)
    | .err x => .err x
    | .stuck => .stuck)
  | .err x => .err x
  | .stuck => .stuck
@[simp] theorem aNil_eq (Γ : Env) : aNil Γ = .ok [] := rfl
@[simp] theorem aCons_eq (f : Ev) (r : EvA) (Γ : Env) : aCons f r Γ = OutA.push (f Γ) (r Γ) := rfl
@[simp] theorem push_ok (m : Md) (d : D) (l : List (Md × D)) : OutA.push (.ok m d) (.ok l) = .ok ((m, d) :: l) := rfl
@[simp] theorem push_err (x : Exn) (r : OutA) : OutA.push (.err x) r = .err x := rfl
@[simp] theorem push_err2 (m : Md) (d : D) (x : Exn) : OutA.push (.ok m d) (.err x) = .err x := rfl
def OutA.run (o : OutA) (f : List (Md × D) → Out) : Out := match o with
  | .ok l => f l
  | .err x => .err x
  | .stuck => .stuck
@[simp] theorem run_ok (l : List (Md × D)) (f : List (Md × D) → Out) : (OutA.ok l).run f = f l := rfl
@[simp] theorem run_err (x : Exn) (f : List (Md × D) → Out) : (OutA.err x).run f = .err x := rfl
@[simp] theorem eFn_eq (g : List D → Option (Md × D)) (as : EvA) (Γ : Env) : eFn g as Γ = (as Γ).run (outL g) := by unfold eFn OutA.run; rfl
def callO (n : Nat) (F : List D → Out) (l : List (Md × D)) : Out := if allDat l = true ∧ l.length = n then noBor (F (l.map (·.2))) else .stuck
where noBor : Out → Out
  | .ok .bor _ => .stuck
  | o => o
@[simp] theorem eCall_eq (n : Nat) (F : List D → Out) (as : EvA) (Γ : Env) : eCall n F as Γ = (as Γ).run (callO n F) := by
  unfold eCall OutA.run callO
  cases as Γ with
  | ok l => dsimp only; split <;> rfl
  | err x => rfl
  | stuck => rfl
theorem callO_ok {n : Nat} {F : List D → Out} {l : List (Md × D)} {m : Md} {d : D} (h1 : allDat l = true) (h2 : l.length = n) (h3 : F (l.map (·.2)) = .ok m d) (h4 : m ≠ .bor) : callO n F l = .ok m d := by
  unfold callO
  rw [if_pos ⟨h1, h2⟩, h3]
  cases m <;> first | rfl | exact absurd rfl h4
@[simp] theorem call1 (F : List D → Out) (a : D) : callO 1 F [(.dat, a)] = callO.noBor (F [a]) := rfl
@[simp] theorem call2 (F : List D → Out) (a b : D) : callO 2 F [(.dat, a), (.dat, b)] = callO.noBor (F [a, b]) := rfl
@[simp] theorem call3 (F : List D → Out) (a b c : D) : callO 3 F [(.dat, a), (.dat, b), (.dat, c)] = callO.noBor (F [a, b, c]) := rfl
@[simp] theorem call4 (F : List D → Out) (a b c d : D) : callO 4 F [(.dat, a), (.dat, b), (.dat, c), (.dat, d)] = callO.noBor (F [a, b, c, d]) := rfl
@[simp] theorem noBor_dat (d : D) : callO.noBor (.ok .dat d) = .ok .dat d := rfl
@[simp] theorem noBor_own (d : D) : callO.noBor (.ok .own d) = .ok .own d := rfl
@[simp] theorem noBor_err (x : Exn) : callO.noBor (.err x) = .err x := rfl
@[simp] theorem noBor_cond (b : Bool) (x y : Out) : callO.noBor (cond b x y) = cond b (callO.noBor x) (callO.noBor y) := by cases b <;> rfl
def tupO (l : List (Md × D)) : Out := if allDat l = true ∧ l.length ≤ 1000 then .ok .dat (.tuple (l.map (·.2))) else .stuck
def lstO (l : List (Md × D)) : Out := if allDat l = true ∧ l.length ≤ 1000 then .ok .own (.list (l.map (·.2))) else .stuck
@[simp] theorem eTup_eq (as : EvA) (Γ : Env) : eTup as Γ = (as Γ).run tupO := by unfold eTup OutA.run tupO; rfl
@[simp] theorem eLst_eq (as : EvA) (Γ : Env) : eLst as Γ = (as Γ).run lstO := by unfold eLst OutA.run lstO; rfl
@[simp] theorem tupO0 : tupO [] = .ok .dat (.tuple []) := rfl
@[simp] theorem tupO1 (a : D) : tupO [(.dat, a)] = .ok .dat (.tuple [a]) := rfl
@[simp] theorem tupO2 (a b : D) : tupO [(.dat, a), (.dat, b)] = .ok .dat (.tuple [a, b]) := rfl
@[simp] theorem tupO3 (a b c : D) : tupO [(.dat, a), (.dat, b), (.dat, c)] = .ok .dat (.tuple [a, b, c]) := rfl
@[simp] theorem tupO4 (a b c d : D) : tupO [(.dat, a), (.dat, b), (.dat, c), (.dat, d)] = .ok .dat (.tuple [a, b, c, d]) := rfl
@[simp] theorem lstO0 : lstO [] = .ok .own (.list []) := rfl
@[simp] theorem lstO1 (a : D) : lstO [(.dat, a)] = .ok .own (.list [a]) := rfl
@[simp] theorem lstO2 (a b : D) : lstO [(.dat, a), (.dat, b)] = .ok .own (.list [a, b]) := rfl
@[simp] theorem lstO3 (a b c : D) : lstO [(.dat, a), (.dat, b), (.dat, c)] = .ok .own (.list [a, b, c]) := rfl
@[simp] theorem lstO4 (a b c d : D) : lstO [(.dat, a), (.dat, b), (.dat, c), (.dat, d)] = .ok .own (.list [a, b, c, d]) := rfl
@[simp] theorem eNewD_eq (Γ : Env) : eNewD Γ = .ok .own (.dict []) := rfl
@[simp] theorem eIsT_eq (T : String) (f : Ev) (Γ : Env) : eIsT T f Γ = (f Γ).bind fun _ d => .ok .dat (.bool (isTyp T d)) := rfl
@[simp] theorem eYes_eq (Γ : Env) : eYes Γ = .ok .dat (.bool true) := rfl
/-! statements -/
def SOut.sq (o : SOut) (g : Ss) : SOut := match o with
  | .nx Γ => g Γ
  | o => o
@[simp] theorem sSeq_eq (f g : Ss) (Γ : Env) : sSeq f g Γ = (f Γ).sq g := by
  unfold sSeq SOut.sq
  cases f Γ <;> rfl
@[simp] theorem sq_nx (Γ : Env) (g : Ss) : (SOut.nx Γ).sq g = g Γ := rfl
@[simp] theorem sq_ret (m : Md) (d : D) (g : Ss) : (SOut.ret m d).sq g = .ret m d := rfl
@[simp] theorem sq_err (x : Exn) (g : Ss) : (SOut.err x).sq g = .err x := rfl
@[simp] theorem sq_cond (b : Bool) (x y : SOut) (g : Ss) : (cond b x y).sq g = cond b (x.sq g) (y.sq g) := by cases b <;> rfl
def Out.sif (o : Out) (t e : SOut) : SOut := match o with
  | .ok _ (.bool true) => t
  | .ok _ (.bool false) => e
  | .err x => .err x
  | _ => .stuck
@[simp] theorem sif_ok (m : Md) (b : Bool) (t e : SOut) : (Out.ok m (.bool b)).sif t e = cond b t e := by cases b <;> rfl
@[simp] theorem sif_err (x : Exn) (t e : SOut) : (Out.err x).sif t e = .err x := rfl
@[simp] theorem sif_cond (b : Bool) (x y : Out) (t e : SOut) : (cond b x y).sif t e = cond b (x.sif t e) (y.sif t e) := by cases b <;> rfl
@[simp] theorem toS_ok (m : Md) (d : D) (k : Md → D → SOut) : (Out.ok m d).toS k = k m d := rfl
@[simp] theorem toS_err (x : Exn) (k : Md → D → SOut) : (Out.err x).toS k = .err x := rfl
@[simp] theorem toS_cond (b : Bool) (x y : Out) (k : Md → D → SOut) : (cond b x y).toS k = cond b (x.toS k) (y.toS k) := by cases b <;> rfl
@[simp] theorem sIf_eq (c : Ev) (a b : Ss) (Γ : Env) : sIf c a b Γ = (c Γ).sif (a Γ) (b Γ) := by
  unfold sIf Out.sif Out.toS
  cases c Γ with
  | ok m d => cases d <;> first | rfl | (rename_i b; cases b <;> rfl)
  | err x => rfl
  | stuck => rfl
def retO : Md → D → SOut
  | .bor, _ => .stuck
  | m, d => .ret m d
@[simp] theorem retO_dat (d : D) : retO .dat d = .ret .dat d := rfl
@[simp] theorem retO_own (d : D) : retO .own d = .ret .own d := rfl
@[simp] theorem sRet_eq (f : Ev) (Γ : Env) : sRet f Γ = (f Γ).toS retO := by
  unfold sRet
  congr 1
  funext m d
  cases m <;> rfl
@[simp] theorem sNil_eq (Γ : Env) : sNil Γ = .nx Γ := rfl
@[simp] theorem sRetN_eq (Γ : Env) : sRetN Γ = .ret .dat .none := rfl
def retV : Option SV → SOut
  | some (.dat d) => .ret .dat d
  | some (.own d) => .ret .own d
  | _ => .stuck
@[simp] theorem retV_dat (d : D) : retV (some (.dat d)) = .ret .dat d := rfl
@[simp] theorem retV_own (d : D) : retV (some (.own d)) = .ret .own d := rfl
@[simp] theorem sRetV_eq (i : Nat) (Γ : Env) : sRetV i Γ = retV Γ[i]? := by unfold sRetV retV; rfl
@[simp] theorem sDrop_eq (f : Ev) (Γ : Env) : sDrop f Γ = (f Γ).toS fun _ _ => .nx Γ := rfl
def asgO (i : Nat) (Γ : Env) : Md → D → SOut
  | .dat, d => .nx (Γ.set i (.dat d))
  | .own, d => .nx (Γ.set i (.own d))
  | .bor, _ => .stuck
@[simp] theorem asgO_dat (i : Nat) (Γ : Env) (d : D) : asgO i Γ .dat d = .nx (Γ.set i (.dat d)) := rfl
@[simp] theorem asgO_own (i : Nat) (Γ : Env) (d : D) : asgO i Γ .own d = .nx (Γ.set i (.own d)) := rfl
@[simp] theorem sAsg_eq (i : Nat) (f : Ev) (Γ : Env) : sAsg i f Γ = (f Γ).toS (asgO i Γ) := by
  unfold sAsg
  congr 1
  funext m d
  cases m <;> rfl
@[simp] theorem sRaise_eq (c : String) (Γ : Env) : sRaise c Γ = .err ⟨c, []⟩ := rfl
def finO : SOut → Out
  | .nx _ => .ok .dat .none
  | .ret m d => .ok m d
  | .err x => .err x
  | .stuck => .stuck
@[simp] theorem finO_nx (Γ : Env) : finO (.nx Γ) = .ok .dat .none := rfl
@[simp] theorem finO_ret (m : Md) (d : D) : finO (.ret m d) = .ok m d := rfl
@[simp] theorem finO_err (x : Exn) : finO (.err x) = .err x := rfl
@[simp] theorem finO_cond (b : Bool) (x y : SOut) : finO (cond b x y) = cond b (finO x) (finO y) := by cases b <;> rfl
theorem runS_eq (n : Nat) (f : Ss) (ds : List D) : runS n f ds = finO (f (env0 n ds)) := by unfold runS finO; cases f (env0 n ds) <;> rfl
def frzS (Γ : Env) (i : Nat) : Option SV → Env
  | some (.own d) => Γ.set i (.dat d)
  | _ => Γ
@[simp] theorem frzS_own (Γ : Env) (i : Nat) (d : D) : frzS Γ i (some (.own d)) = Γ.set i (.dat d) := rfl
@[simp] theorem frzS_dat (Γ : Env) (i : Nat) (d : D) : frzS Γ i (some (.dat d)) = Γ := rfl
@[simp] theorem frzS_un (Γ : Env) (i : Nat) : frzS Γ i (some .un) = Γ := rfl
@[simp] theorem sFrz_eq (i : Nat) (f : Ss) (Γ : Env) : sFrz i f Γ = f (frzS Γ i Γ[i]?) := by unfold sFrz frzE frzS; rfl
/-! values -/
@[simp] theorem gEq_int (i j : Int) : gEq (.int i) (.int j) = some (.dat, .bool (decide (i = j))) := by unfold gEq eqOk scalD; simp [PyData.eqv]; rfl
@[simp] theorem gEq_str (i j : Str) : gEq (.str i) (.str j) = some (.dat, .bool (decide (i = j))) := by unfold gEq eqOk scalD; simp [PyData.eqv]; rfl
@[simp] theorem gNe_int (i j : Int) : gNe (.int i) (.int j) = some (.dat, .bool (!decide (i = j))) := by unfold gNe eqOk scalD; simp [PyData.eqv]; rfl
@[simp] theorem gNe_str (i j : Str) : gNe (.str i) (.str j) = some (.dat, .bool (!decide (i = j))) := by unfold gNe eqOk scalD; simp [PyData.eqv]; rfl
@[simp] theorem gLt_int (i j : Int) : gLt (.int i) (.int j) = some (.dat, .bool (decide (i < j))) := rfl
@[simp] theorem gLe_int (i j : Int) : gLe (.int i) (.int j) = some (.dat, .bool (decide (i ≤ j))) := rfl
@[simp] theorem gGt_int (i j : Int) : gGt (.int i) (.int j) = some (.dat, .bool (decide (j < i))) := rfl
@[simp] theorem gGe_int (i j : Int) : gGe (.int i) (.int j) = some (.dat, .bool (decide (j ≤ i))) := rfl
@[simp] theorem chain_le_le (i j : Int) (c : Out) : chain gLe gLe (.int i) (.int j) c = cond (decide (i ≤ j)) (c.bind fun _ z => out2 gLe (.int j) z) (.ok .dat (.bool false)) := chain_ok (gLe_int i j)
@[simp] theorem gIsN_eq (x : D) : gIsN x .none = some (.dat, .bool (isNon x)) := rfl
@[simp] theorem gNotN_eq (x : D) : gNotN x .none = some (.dat, .bool (!isNon x)) := rfl
@[simp] theorem gPlus_int (i j : Int) : gPlus (.int i) (.int j) = some (.dat, .int (i + j)) := rfl
@[simp] theorem gSub_int (i j : Int) : gSub (.int i) (.int j) = some (.dat, .int (i - j)) := rfl
theorem gDiv_pos {i j : Int} (h : 0 < j ∧ j < 1073741824) : gDiv (.int i) (.int j) = some (.dat, .int (i / j)) := if_pos h
theorem gMod_pos {i j : Int} (h : 0 < j) : gMod (.int i) (.int j) = some (.dat, .int (i % j)) := if_pos h
theorem gTimes_int {i j : Int} (h : (-(2 ^ 64) < i ∧ i < 2 ^ 64) ∨ (-(2 ^ 64) < j ∧ j < 2 ^ 64)) : gTimes (.int i) (.int j) = some (.dat, .int (i * j)) := if_pos h
@[simp] theorem gLen_list (ds : List D) : gLen [.list ds] = some (.dat, .int ds.length) := rfl
@[simp] theorem gLen_tuple (ds : List D) : gLen [.tuple ds] = some (.dat, .int ds.length) := rfl
theorem okK_dk (kv : List (Str × D)) : okK (dk kv) = true := by
  unfold okK dk
  rw [List.all_map, List.all_eq_true]
  exact fun p _ => rfl
@[simp] theorem gLen_dict (kv : List (Str × D)) : gLen [.dict (dk kv)] = some (.dat, .int (dk kv).length) := if_pos (okK_dk kv)
theorem gLen_str {x : Str} (h : x.length ≤ 1000) : gLen [.str x] = some (.dat, .int x.length) := if_pos (line1000 h)
@[simp] theorem gAll_list (bs : List Bool) : gAll [.list (bs.map .bool)] = some (.dat, .bool (bs.all id)) := by
  show (bools (bs.map PyData.bool)).map _ = _
  rw [bools_map]; rfl
@[simp] theorem gDict_dict (kv : List (Str × D)) : gDict [.dict (dk kv)] = some (.own, .dict (dk kv)) := if_pos (okK_dk kv)
theorem gDict_list (kv : List (Str × D)) : gDict [.list (kv.map fun p => .tuple [.str p.1, p.2])] = some (.own, .dict (dk (kmerge [] kv))) := by
  show (pairs (kv.map fun p => PyData.tuple [.str p.1, p.2])).map _ = _
  rw [pairs_dk]
  show some (Md.own, PyData.dict (dmerge (dk []) (dk kv))) = _
  rw [dmerge_dk]
@[simp] theorem gList_list (ds : List D) : gList [.list ds] = some (.own, .list ds) := rfl
@[simp] theorem gList_tuple (ds : List D) : gList [.tuple ds] = some (.own, .list ds) := rfl
@[simp] theorem gList_dk (kv : List (Str × D)) : gList [.dict (dk kv)] = some (.own, .list ((keysK kv).map .str)) := by
  show (if okK (dk kv) = true then some (Md.own, PyData.list ((dk kv).map (·.1))) else none) = _
  rw [if_pos (okK_dk kv), dk_keys]; rfl
@[simp] theorem gTuple_list (ds : List D) : gTuple [.list ds] = some (.dat, .tuple ds) := rfl
@[simp] theorem gTuple_tuple (ds : List D) : gTuple [.tuple ds] = some (.dat, .tuple ds) := rfl
theorem gSorted_list {xs : List Str} (h : xs.length < 64) : gSorted [.list (xs.map .str)] = some (.own, .list ((sortS xs).map .str)) := by
  unfold gSorted; dsimp only; rw [txts_map]; exact if_pos h
theorem gSorted_dk {kv : List (Str × D)} (h : kv.length < 64) : gSorted [.dict (dk kv)] = some (.own, .list ((sortS (keysK kv)).map .str)) := by
  unfold gSorted; dsimp only; rw [dk_keys, txts_map]; exact if_pos (by rw [List.length_map]; exact h)
@[simp] theorem gIn_dk (x : Str) (kv : List (Str × D)) : gIn (.str x) (.dict (dk kv)) = some (.dat, .bool (kv.lookup x).isSome) := by
  have h : mIn (.str x) (.dict (dk kv)) = some (dget (dk kv) (.str x)).isSome := if_pos ⟨rfl, okK_dk kv⟩
  unfold gIn
  rw [h, dget_dk]; rfl
@[simp] theorem gNotIn_dk (x : Str) (kv : List (Str × D)) : gNotIn (.str x) (.dict (dk kv)) = some (.dat, .bool (!(kv.lookup x).isSome)) := by
  have h : mIn (.str x) (.dict (dk kv)) = some (dget (dk kv) (.str x)).isSome := if_pos ⟨rfl, okK_dk kv⟩
  unfold gNotIn
  rw [h, dget_dk]; rfl
theorem flat_strs (xs : List Str) : (xs.map PyData.str).all flatD = true := by rw [List.all_map, List.all_eq_true]; intro x _; rfl
theorem inD_strs (x : Str) (xs : List Str) : inD (.str x) (xs.map .str) = decide (x ∈ xs) := by
  unfold inD
  rw [List.any_map, Bool.eq_iff_iff]
  simp [Function.comp, PyData.eqv]
@[simp] theorem gIn_list (x : Str) (xs : List Str) : gIn (.str x) (.list (xs.map .str)) = some (.dat, .bool (decide (x ∈ xs))) := by
  have h : mIn (.str x) (.list (xs.map .str)) = some (decide (x ∈ xs)) := by
    show (if (flatD (.str x) && (xs.map PyData.str).all flatD) = true then some (inD (.str x) (xs.map .str)) else none) = _
    rw [flat_strs, inD_strs]; rfl
  unfold gIn; rw [h]; rfl
@[simp] theorem gIn_tuple (x : Str) (xs : List Str) : gIn (.str x) (.tuple (xs.map .str)) = some (.dat, .bool (decide (x ∈ xs))) := by
  have h : mIn (.str x) (.tuple (xs.map .str)) = some (decide (x ∈ xs)) := by
    show (if (flatD (.str x) && (xs.map PyData.str).all flatD) = true then some (inD (.str x) (xs.map .str)) else none) = _
    rw [flat_strs, inD_strs]; rfl
  unfold gIn; rw [h]; rfl
@[simp] theorem gNotIn_list (x : Str) (xs : List Str) : gNotIn (.str x) (.list (xs.map .str)) = some (.dat, .bool (!decide (x ∈ xs))) := by
  have h : mIn (.str x) (.list (xs.map .str)) = some (decide (x ∈ xs)) := by
    show (if (flatD (.str x) && (xs.map PyData.str).all flatD) = true then some (inD (.str x) (xs.map .str)) else none) = _
    rw [flat_strs, inD_strs]; rfl
  unfold gNotIn; rw [h]; rfl
@[simp] theorem gNotIn_tuple (x : Str) (xs : List Str) : gNotIn (.str x) (.tuple (xs.map .str)) = some (.dat, .bool (!decide (x ∈ xs))) := by
  have h : mIn (.str x) (.tuple (xs.map .str)) = some (decide (x ∈ xs)) := by
    show (if (flatD (.str x) && (xs.map PyData.str).all flatD) = true then some (inD (.str x) (xs.map .str)) else none) = _
    rw [flat_strs, inD_strs]; rfl
  unfold gNotIn; rw [h]; rfl
theorem gIx_dk {kv : List (Str × D)} {x : Str} {d : D} (h : kv.lookup x = some d) : gIx (.dict (dk kv)) (.str x) = some (.dat, d) := by
  show (if isKey (.str x) = true then (dget (dk kv) (.str x)).map _ else none) = _
  rw [dget_dk, h]; rfl
theorem atI_nat {α : Type} {xs : List α} {i : Nat} {x : α} (h : xs[i]? = some x) : atI xs (i : Int) = some x := by
  have hl : i < xs.length := by
    rcases Nat.lt_or_ge i xs.length with z | z
    · exact z
    · rw [List.getElem?_eq_none z] at h; cases h
  unfold atI ixN
  rw [if_pos (by omega), if_pos (by omega)]
  simpa using h
theorem gIx_tuple {ds : List D} {i : Nat} {d : D} (h : ds[i]? = some d) : gIx (.tuple ds) (.int (i : Int)) = some (.dat, d) := by
  show (atI ds (i : Int)).map _ = _
  rw [atI_nat h]; rfl
theorem gIx_list {ds : List D} {i : Nat} {d : D} (h : ds[i]? = some d) : gIx (.list ds) (.int (i : Int)) = some (.dat, d) := by
  show (atI ds (i : Int)).map _ = _
  rw [atI_nat h]; rfl
@[simp] theorem gIx_t0 (a : D) (r : List D) : gIx (.tuple (a :: r)) (.int 0) = some (.dat, a) := gIx_tuple (i := 0) rfl
@[simp] theorem gIx_t1 (a b : D) (r : List D) : gIx (.tuple (a :: b :: r)) (.int 1) = some (.dat, b) := gIx_tuple (i := 1) rfl
@[simp] theorem gIx_t2 (a b c : D) (r : List D) : gIx (.tuple (a :: b :: c :: r)) (.int 2) = some (.dat, c) := gIx_tuple (i := 2) rfl
@[simp] theorem gIx_t3 (a b c d : D) (r : List D) : gIx (.tuple (a :: b :: c :: d :: r)) (.int 3) = some (.dat, d) := gIx_tuple (i := 3) rfl
@[simp] theorem gIx_l0 (a : D) (r : List D) : gIx (.list (a :: r)) (.int 0) = some (.dat, a) := gIx_list (i := 0) rfl
theorem iVal_tuple_dat {f : Ev} {Γ : Env} {ds : List D} (h : (f Γ).dat = .ok .dat (.tuple ds)) : iVal f Γ = .ok ds := by unfold iVal; rw [eDat_eq, h]; rfl
theorem iVal_list {f : Ev} {Γ : Env} {m : Md} {ds : List D} (h : f Γ = .ok m (.list ds)) (hm : m ≠ .bor) : iVal f Γ = .ok ds := by
  unfold iVal; rw [eDat_eq, h]; cases m <;> first | rfl | exact absurd rfl hm
theorem iVal_dk {f : Ev} {Γ : Env} {m : Md} {kv : List (Str × D)} (h : f Γ = .ok m (.dict (dk kv))) (hm : m ≠ .bor) : iVal f Γ = .ok ((keysK kv).map .str) := by
  unfold iVal; rw [eDat_eq, h]
  cases m <;> first | exact absurd rfl hm | (show OutI.ok ((dk kv).map (·.1)) = _; rw [dk_keys]; rfl)
@[simp] theorem isTyp_int_none  : isTyp "int" .none = false := rfl
@[simp] theorem isTyp_int_bool (b : Bool) : isTyp "int" (.bool b) = true := rfl
@[simp] theorem isTyp_int_int (i : Int) : isTyp "int" (.int i) = true := rfl
@[simp] theorem isTyp_int_str (s : Str) : isTyp "int" (.str s) = false := rfl
@[simp] theorem isTyp_int_list (l : List D) : isTyp "int" (.list l) = false := rfl
@[simp] theorem isTyp_int_tuple (l : List D) : isTyp "int" (.tuple l) = false := rfl
@[simp] theorem isTyp_int_dict (l : List (D × D)) : isTyp "int" (.dict l) = false := rfl
@[simp] theorem isTyp_bool_none  : isTyp "bool" .none = false := rfl
@[simp] theorem isTyp_bool_bool (b : Bool) : isTyp "bool" (.bool b) = true := rfl
@[simp] theorem isTyp_bool_int (i : Int) : isTyp "bool" (.int i) = false := rfl
@[simp] theorem isTyp_bool_str (s : Str) : isTyp "bool" (.str s) = false := rfl
@[simp] theorem isTyp_bool_list (l : List D) : isTyp "bool" (.list l) = false := rfl
@[simp] theorem isTyp_bool_tuple (l : List D) : isTyp "bool" (.tuple l) = false := rfl
@[simp] theorem isTyp_bool_dict (l : List (D × D)) : isTyp "bool" (.dict l) = false := rfl
@[simp] theorem isTyp_str_none  : isTyp "str" .none = false := rfl
@[simp] theorem isTyp_str_bool (b : Bool) : isTyp "str" (.bool b) = false := rfl
@[simp] theorem isTyp_str_int (i : Int) : isTyp "str" (.int i) = false := rfl
@[simp] theorem isTyp_str_str (s : Str) : isTyp "str" (.str s) = true := rfl
@[simp] theorem isTyp_str_list (l : List D) : isTyp "str" (.list l) = false := rfl
@[simp] theorem isTyp_str_tuple (l : List D) : isTyp "str" (.tuple l) = false := rfl
@[simp] theorem isTyp_str_dict (l : List (D × D)) : isTyp "str" (.dict l) = false := rfl
@[simp] theorem isTyp_list_none  : isTyp "list" .none = false := rfl
@[simp] theorem isTyp_list_bool (b : Bool) : isTyp "list" (.bool b) = false := rfl
@[simp] theorem isTyp_list_int (i : Int) : isTyp "list" (.int i) = false := rfl
@[simp] theorem isTyp_list_str (s : Str) : isTyp "list" (.str s) = false := rfl
@[simp] theorem isTyp_list_list (l : List D) : isTyp "list" (.list l) = true := rfl
@[simp] theorem isTyp_list_tuple (l : List D) : isTyp "list" (.tuple l) = false := rfl
@[simp] theorem isTyp_list_dict (l : List (D × D)) : isTyp "list" (.dict l) = false := rfl
@[simp] theorem isTyp_tuple_none  : isTyp "tuple" .none = false := rfl
@[simp] theorem isTyp_tuple_bool (b : Bool) : isTyp "tuple" (.bool b) = false := rfl
@[simp] theorem isTyp_tuple_int (i : Int) : isTyp "tuple" (.int i) = false := rfl
@[simp] theorem isTyp_tuple_str (s : Str) : isTyp "tuple" (.str s) = false := rfl
@[simp] theorem isTyp_tuple_list (l : List D) : isTyp "tuple" (.list l) = false := rfl
@[simp] theorem isTyp_tuple_tuple (l : List D) : isTyp "tuple" (.tuple l) = true := rfl
@[simp] theorem isTyp_tuple_dict (l : List (D × D)) : isTyp "tuple" (.dict l) = false := rfl
@[simp] theorem isTyp_dict_none  : isTyp "dict" .none = false := rfl
@[simp] theorem isTyp_dict_bool (b : Bool) : isTyp "dict" (.bool b) = false := rfl
@[simp] theorem isTyp_dict_int (i : Int) : isTyp "dict" (.int i) = false := rfl
@[simp] theorem isTyp_dict_str (s : Str) : isTyp "dict" (.str s) = false := rfl
@[simp] theorem isTyp_dict_list (l : List D) : isTyp "dict" (.list l) = false := rfl
@[simp] theorem isTyp_dict_tuple (l : List D) : isTyp "dict" (.tuple l) = false := rfl
@[simp] theorem isTyp_dict_dict (l : List (D × D)) : isTyp "dict" (.dict l) = true := rfl
end Vb
/-! My: the program's small functions. -/
namespace Vb
open PySem L2
def lettersS : Str := "abcdefghijklmnopqrstuvwxyz"
def letB (c : Nat) : Bool := decide (c ∈ lettersS.cps.toList)
def nmB (s : Str) : Bool := decide (1 ≤ s.length) && (decide (s.length ≤ 8) && s.cps.toList.all letB)
theorem isName_str {s : Str} (h : s.length ≤ 1000) : F_is_name [.str s] = .ok .dat (.bool (nmB s)) := by
  have c : compL (bName 1) eYes (eBin gIn (eVar 1) (eC (.str "abcdefghijklmnopqrstuvwxyz"))) (wipeE [.dat (.str s), .un] [1]) (signs s) = .ok ((s.cps.toList.map letB).map PyData.bool) := by
    rw [compL_map (p := fun _ => true) (f := fun d => match d with | .str x => .bool (decide (x.cps.toList.headD 0 ∈ lettersS.cps.toList)) | _ => .none)]
    · unfold signs
      rw [List.filter_eq_self.mpr (fun _ _ => rfl), List.map_map, List.map_map]
      rfl
    · intro d hd
      unfold signs at hd
      obtain ⟨n, hn, rfl⟩ := List.mem_map.mp hd
      exact ⟨_, rfl, ⟨.dat, rfl⟩, fun _ => ⟨.dat, rfl⟩⟩
  have l : eLC [1] (iVal (eVar 0)) (bName 1) eYes (eBin gIn (eVar 1) (eC (.str "abcdefghijklmnopqrstuvwxyz"))) [.dat (.str s), .un] = .ok .own (.list ((s.cps.toList.map letB).map PyData.bool)) :=
    eLC_ok (ds := signs s) rfl (by unfold signs; rw [List.length_map]; exact h) c
  unfold F_is_name
  rw [runS_eq]
  unfold b_is_name
  rw [show env0 2 [PyData.str s] = [.dat (.str s), .un] from rfl]
  simp [gLen_str h, l, -List.map_map]
  unfold nmB
  have e1 : decide (1 ≤ (s.length : Int)) = decide (1 ≤ s.length) := by rw [decide_eq_decide]; omega
  have e2 : decide ((s.length : Int) ≤ 8) = decide (s.length ≤ 8) := by rw [decide_eq_decide]; omega
  rw [e1, e2]
  cases decide (1 ≤ s.length) <;> cases decide (s.length ≤ 8) <;> simp
/-- the names that a law draws -/
structure Nms (NS : List Str) : Prop where
  nd : NS.Nodup
  len : NS.length = 14
  nm : ∀ s ∈ NS, nmB s = true
theorem nmB_len {s : Str} (h : nmB s = true) : 1 ≤ s.length ∧ s.length ≤ 8 := by
  unfold nmB at h
  simp only [Bool.and_eq_true, decide_eq_true_eq] at h
  exact ⟨h.1, h.2.1⟩
theorem isName_nm {s : Str} (h : nmB s = true) : F_is_name [.str s] = .ok .dat (.bool true) := by
  rw [isName_str (by have := nmB_len h; omega), h]
theorem isWhole_int (i : Int) : F_is_whole [.int i] = .ok .dat (.bool true) := rfl
/-! ### trees as data -/
def ORp (R : D → T → Prop) : Option D → Option T → Prop
  | some d, some t => R d t
  | none, none => True
  | _, _ => False
/-- the data d (so deep) is the tree t, its names among NS -/
def Rp (NS : List Str) : Nat → D → T → Prop
  | _ + 1, .int i, .num j => i = j ∧ i.natAbs ≤ 100000000000000000000000000000
  | n + 1, .dict l, .node m => ∃ kv, l = dk kv ∧ (keysK kv).Nodup ∧ (∀ s ∈ keysK kv, s ∈ NS) ∧ ∀ s, ORp (Rp NS n) (kv.lookup s) (m s)
  | _, _, _ => False
theorem ORp.some1 {R : D → T → Prop} {d : D} {o : Option T} (h : ORp R (some d) o) : ∃ t, o = some t ∧ R d t := by
  cases o with
  | none => exact h.elim
  | some t => exact ⟨t, rfl, h⟩
theorem ORp.some2 {R : D → T → Prop} {t : T} {o : Option D} (h : ORp R o (some t)) : ∃ d, o = some d ∧ R d t := by
  cases o with
  | none => exact h.elim
  | some d => exact ⟨d, rfl, h⟩
theorem ORp.none1 {R : D → T → Prop} {o : Option T} (h : ORp R none o) : o = none := by
  cases o with
  | none => rfl
  | some t => exact h.elim
theorem ORp.none2 {R : D → T → Prop} {o : Option D} (h : ORp R o none) : o = none := by
  cases o with
  | none => rfl
  | some t => exact h.elim
theorem ORp.imp {R R' : D → T → Prop} (i : ∀ d t, R d t → R' d t) : ∀ {o : Option D} {p : Option T}, ORp R o p → ORp R' o p
  | some d, some t, h => i d t h
  | none, none, _ => trivial
  | some _, none, h => h.elim
  | none, some _, h => h.elim
theorem ORp.isSome {R : D → T → Prop} {o : Option D} {p : Option T} (h : ORp R o p) : o.isSome = p.isSome := by
  cases o <;> cases p <;> first | rfl | exact h.elim
section
variable {NS : List Str} {n : Nat}
theorem Rp.num_inv {d : D} {i : Int} (h : Rp NS n d (.num i)) : d = .int i := by
  unfold Rp at h
  split at h
  · rename_i e; cases e; rw [h.1]
  · rename_i e; cases e
  · exact h.elim
theorem Rp.node_inv {d : D} {m : Str → Option T} (h : Rp NS n d (.node m)) : ∃ k kv, n = k + 1 ∧ d = .dict (dk kv) ∧ (keysK kv).Nodup ∧ (∀ s ∈ keysK kv, s ∈ NS) ∧ ∀ s, ORp (Rp NS k) (kv.lookup s) (m s) := by
  unfold Rp at h
  split at h
  · rename_i e; cases e
  · rename_i e
    cases e
    obtain ⟨kv, rfl, h2, h3, h4⟩ := h
    exact ⟨_, kv, rfl, rfl, h2, h3, h4⟩
  · exact h.elim
theorem Rp.cases {d : D} {t : T} (h : Rp NS n d t) : (∃ i, d = .int i ∧ t = .num i) ∨ ∃ k kv m, n = k + 1 ∧ d = .dict (dk kv) ∧ t = .node m ∧ (keysK kv).Nodup ∧ (∀ s ∈ keysK kv, s ∈ NS) ∧ ∀ s, ORp (Rp NS k) (kv.lookup s) (m s) := by
  cases t with
  | num i => exact .inl ⟨i, h.num_inv, rfl⟩
  | node m =>
    obtain ⟨k, kv, h1, h2, h3, h4, h5⟩ := h.node_inv
    exact .inr ⟨k, kv, m, h1, h2, rfl, h3, h4, h5⟩
theorem rp_int {i : Int} (h : i.natAbs ≤ 100000000000000000000000000000) : Rp NS (n + 1) (.int i) (.num i) := ⟨rfl, h⟩
theorem Rp.small {i : Int} (h : Rp NS n (.int i) (.num i)) : i.natAbs ≤ 100000000000000000000000000000 := by
  unfold Rp at h
  split at h
  · rename_i e1 e2; cases e1; cases e2; exact h.2
  · rename_i e _; cases e
  · exact h.elim
theorem rp_dk {kv : List (Str × D)} {m : Str → Option T} (h1 : (keysK kv).Nodup) (h2 : ∀ s ∈ keysK kv, s ∈ NS) (h3 : ∀ s, ORp (Rp NS n) (kv.lookup s) (m s)) : Rp NS (n + 1) (.dict (dk kv)) (.node m) := ⟨kv, rfl, h1, h2, h3⟩
theorem Rp.up : ∀ {n : Nat} {d : D} {t : T}, Rp NS n d t → Rp NS (n + 1) d t
  | 0, _, _, h => by unfold Rp at h; exact h.elim
  | n + 1, d, t, h => by
    rcases h.cases with ⟨i, rfl, rfl⟩ | ⟨k, kv, m, e, rfl, rfl, h1, h2, h3⟩
    · exact rp_int h.small
    · cases e
      exact rp_dk h1 h2 fun s => (h3 s).imp fun _ _ => Rp.up
theorem Rp.mono {n m : Nat} {d : D} {t : T} (h : Rp NS n d t) (l : n ≤ m) : Rp NS m d t := by
  induction l with
  | refl => exact h
  | step _ ih => exact ih.up
theorem sub_len : ∀ {l NS : List Str}, l.Nodup → (∀ s ∈ l, s ∈ NS) → l.length ≤ NS.length
  | [], _, _, _ => Nat.zero_le _
  | x :: l, NS, nd, h => by
    rw [List.nodup_cons] at nd
    have hx := h x List.mem_cons_self
    have ih := sub_len (l := l) (NS := NS.erase x) nd.2 fun s hs => by
      have hne : s ≠ x := fun z => nd.1 (z ▸ hs)
      exact (List.mem_erase_of_ne hne).mpr (h s (List.mem_cons_of_mem _ hs))
    rw [List.length_erase_of_mem hx] at ih
    have : 0 < NS.length := List.length_pos_of_mem hx
    rw [List.length_cons]
    omega
theorem kv_len (N : Nms NS) {kv : List (Str × D)} (h1 : (keysK kv).Nodup) (h2 : ∀ s ∈ keysK kv, s ∈ NS) : kv.length ≤ 14 := by
  have h := sub_len h1 h2
  rw [N.len] at h
  unfold keysK at h
  rwa [List.length_map] at h
theorem keys_map (kv : List (Str × D)) (f : Str → D → D) (nd : (keysK kv).Nodup) : ((keysK kv).map PyData.str).map (fun d => match d with
    | .str s => PyData.tuple [.str s, f s ((kv.lookup s).getD .none)]
    | _ => .none) = (kv.map fun p => (p.1, f p.1 p.2)).map fun p => PyData.tuple [.str p.1, p.2] := by
  unfold keysK
  rw [List.map_map, List.map_map, List.map_map]
  refine List.map_congr_left fun p hp => ?_
  simp only [Function.comp]
  rw [lookup_of_mem nd (show (p.1, p.2) ∈ kv from hp)]
  rfl
end
end Vb
/-! Mz: is_tree, copied, the law's copy; comprehensions over texts. -/
namespace Vb
open PySem L2
theorem lcStrs {vs : List Nat} {fi : EvI} {b : Bd} {t e : Ev} {Γ : Env} {xs : List Str} {p : Str → Bool} {f : Str → D} (hi : fi Γ = .ok (xs.map .str)) (hl : xs.length ≤ 1000)
    (h : ∀ s ∈ xs, ∃ Γ1, b (.str s) (wipeE Γ vs) = some Γ1 ∧ (∃ m, t Γ1 = .ok m (.bool (p s))) ∧ (p s = true → ∃ m, (e Γ1).dat = .ok m (f s))) : eLC vs fi b t e Γ = .ok .own (.list ((xs.filter p).map f)) := by
  refine eLC_ok hi (by rw [List.length_map]; exact hl) ?_
  rw [compL_map (p := fun d => match d with | .str s => p s | _ => false) (f := fun d => match d with | .str s => f s | _ => .none)]
  · rw [List.filter_map, List.map_map]
    rfl
  · intro d hd
    obtain ⟨s, hs, rfl⟩ := List.mem_map.mp hd
    exact h s hs
/-- without a test -/
theorem lcStrs' {vs : List Nat} {fi : EvI} {b : Bd} {e : Ev} {Γ : Env} {xs : List Str} {f : Str → D} (hi : fi Γ = .ok (xs.map .str)) (hl : xs.length ≤ 1000)
    (h : ∀ s ∈ xs, ∃ Γ1, b (.str s) (wipeE Γ vs) = some Γ1 ∧ ∃ m, (e Γ1).dat = .ok m (f s)) : eLC vs fi b eYes e Γ = .ok .own (.list (xs.map f)) := by
  have z := lcStrs (t := eYes) (p := fun _ => true) (f := f) hi hl fun s hs => by
    obtain ⟨Γ1, h1, h2⟩ := h s hs
    exact ⟨Γ1, h1, ⟨.dat, rfl⟩, fun _ => h2⟩
  rwa [List.filter_eq_self.mpr (fun _ _ => rfl)] at z
theorem gAll_map {α : Type} (f : α → Bool) (xs : List α) : gAll [.list (xs.map fun x => .bool (f x))] = some (.dat, .bool (xs.all f)) := by
  have e : (xs.map fun x => PyData.bool (f x)) = (xs.map f).map PyData.bool := by rw [List.map_map]; rfl
  rw [e, gAll_list, List.all_map]
  rfl
theorem keysK_length (kv : List (Str × D)) : (keysK kv).length = kv.length := List.length_map _
def mdOf : D → Md
  | .dict _ => .own
  | .list _ => .own
  | _ => .dat
section
variable {NS : List Str}
theorem isTree_rp (N : Nms NS) : ∀ {n : Nat} {d : D} {t : T}, Rp NS n d t → F_is_tree n [d] = .ok .dat (.bool true)
  | 0, _, _, h => by unfold Rp at h; exact h.elim
  | n + 1, d, t, h => by
    rcases h.cases with ⟨i, rfl, rfl⟩ | ⟨k, kv, m, e, rfl, rfl, h1, h2, h3⟩
    · rfl
    · cases e
      have hl := kv_len N h1 h2
      unfold F_is_tree
      rw [runS_eq]
      unfold b_is_tree
      rw [show env0 2 [PyData.dict (dk kv)] = [.dat (.dict (dk kv)), .un] from rfl]
      have l := lcStrs' (vs := [1]) (fi := iVal (eVar 0)) (b := bName 1) (e := eAnd (eCall 1 F_is_name (aCons (eVar 1) aNil)) (eCall 1 (F_is_tree n) (aCons (eBin gIx (eVar 0) (eVar 1)) aNil))) (Γ := [.dat (.dict (dk kv)), .un]) (xs := keysK kv) (f := fun _ => .bool true)
        (iVal_dk (m := .dat) rfl (by simp)) (by rw [keysK_length]; omega) fun s hs => by
          obtain ⟨d, hd⟩ := Option.isSome_iff_exists.mp (lookup_isSome.mpr hs)
          obtain ⟨t, ht, hr⟩ := (hd ▸ h3 s : ORp _ (some d) _).some1
          refine ⟨_, rfl, .dat, ?_⟩
          simp [wipeE, isName_nm (N.nm s (h2 s hs)), gIx_dk hd, isTree_rp N hr]
      simp [l]
      rw [gAll_map (fun _ => true)]
      simp
end
end Vb
/-! Na: views as data; is_view. -/
namespace Vb
open PySem L2
@[simp] theorem w_whole_pick : (Str.ofString "whole" = Str.ofString "pick") = False := eq_false (by decide)
@[simp] theorem w_whole_call : (Str.ofString "whole" = Str.ofString "call") = False := eq_false (by decide)
@[simp] theorem w_whole_sift : (Str.ofString "whole" = Str.ofString "sift") = False := eq_false (by decide)
@[simp] theorem w_whole_join : (Str.ofString "whole" = Str.ofString "join") = False := eq_false (by decide)
@[simp] theorem w_whole_beside : (Str.ofString "whole" = Str.ofString "beside") = False := eq_false (by decide)
@[simp] theorem w_whole_each : (Str.ofString "whole" = Str.ofString "each") = False := eq_false (by decide)
@[simp] theorem w_whole_then : (Str.ofString "whole" = Str.ofString "then") = False := eq_false (by decide)
@[simp] theorem w_pick_whole : (Str.ofString "pick" = Str.ofString "whole") = False := eq_false (by decide)
@[simp] theorem w_pick_call : (Str.ofString "pick" = Str.ofString "call") = False := eq_false (by decide)
@[simp] theorem w_pick_sift : (Str.ofString "pick" = Str.ofString "sift") = False := eq_false (by decide)
@[simp] theorem w_pick_join : (Str.ofString "pick" = Str.ofString "join") = False := eq_false (by decide)
@[simp] theorem w_pick_beside : (Str.ofString "pick" = Str.ofString "beside") = False := eq_false (by decide)
@[simp] theorem w_pick_each : (Str.ofString "pick" = Str.ofString "each") = False := eq_false (by decide)
@[simp] theorem w_pick_then : (Str.ofString "pick" = Str.ofString "then") = False := eq_false (by decide)
@[simp] theorem w_call_whole : (Str.ofString "call" = Str.ofString "whole") = False := eq_false (by decide)
@[simp] theorem w_call_pick : (Str.ofString "call" = Str.ofString "pick") = False := eq_false (by decide)
@[simp] theorem w_call_sift : (Str.ofString "call" = Str.ofString "sift") = False := eq_false (by decide)
@[simp] theorem w_call_join : (Str.ofString "call" = Str.ofString "join") = False := eq_false (by decide)
@[simp] theorem w_call_beside : (Str.ofString "call" = Str.ofString "beside") = False := eq_false (by decide)
@[simp] theorem w_call_each : (Str.ofString "call" = Str.ofString "each") = False := eq_false (by decide)
@[simp] theorem w_call_then : (Str.ofString "call" = Str.ofString "then") = False := eq_false (by decide)
@[simp] theorem w_sift_whole : (Str.ofString "sift" = Str.ofString "whole") = False := eq_false (by decide)
@[simp] theorem w_sift_pick : (Str.ofString "sift" = Str.ofString "pick") = False := eq_false (by decide)
@[simp] theorem w_sift_call : (Str.ofString "sift" = Str.ofString "call") = False := eq_false (by decide)
@[simp] theorem w_sift_join : (Str.ofString "sift" = Str.ofString "join") = False := eq_false (by decide)
@[simp] theorem w_sift_beside : (Str.ofString "sift" = Str.ofString "beside") = False := eq_false (by decide)
@[simp] theorem w_sift_each : (Str.ofString "sift" = Str.ofString "each") = False := eq_false (by decide)
@[simp] theorem w_sift_then : (Str.ofString "sift" = Str.ofString "then") = False := eq_false (by decide)
@[simp] theorem w_join_whole : (Str.ofString "join" = Str.ofString "whole") = False := eq_false (by decide)
@[simp] theorem w_join_pick : (Str.ofString "join" = Str.ofString "pick") = False := eq_false (by decide)
@[simp] theorem w_join_call : (Str.ofString "join" = Str.ofString "call") = False := eq_false (by decide)
@[simp] theorem w_join_sift : (Str.ofString "join" = Str.ofString "sift") = False := eq_false (by decide)
@[simp] theorem w_join_beside : (Str.ofString "join" = Str.ofString "beside") = False := eq_false (by decide)
@[simp] theorem w_join_each : (Str.ofString "join" = Str.ofString "each") = False := eq_false (by decide)
@[simp] theorem w_join_then : (Str.ofString "join" = Str.ofString "then") = False := eq_false (by decide)
@[simp] theorem w_beside_whole : (Str.ofString "beside" = Str.ofString "whole") = False := eq_false (by decide)
@[simp] theorem w_beside_pick : (Str.ofString "beside" = Str.ofString "pick") = False := eq_false (by decide)
@[simp] theorem w_beside_call : (Str.ofString "beside" = Str.ofString "call") = False := eq_false (by decide)
@[simp] theorem w_beside_sift : (Str.ofString "beside" = Str.ofString "sift") = False := eq_false (by decide)
@[simp] theorem w_beside_join : (Str.ofString "beside" = Str.ofString "join") = False := eq_false (by decide)
@[simp] theorem w_beside_each : (Str.ofString "beside" = Str.ofString "each") = False := eq_false (by decide)
@[simp] theorem w_beside_then : (Str.ofString "beside" = Str.ofString "then") = False := eq_false (by decide)
@[simp] theorem w_each_whole : (Str.ofString "each" = Str.ofString "whole") = False := eq_false (by decide)
@[simp] theorem w_each_pick : (Str.ofString "each" = Str.ofString "pick") = False := eq_false (by decide)
@[simp] theorem w_each_call : (Str.ofString "each" = Str.ofString "call") = False := eq_false (by decide)
@[simp] theorem w_each_sift : (Str.ofString "each" = Str.ofString "sift") = False := eq_false (by decide)
@[simp] theorem w_each_join : (Str.ofString "each" = Str.ofString "join") = False := eq_false (by decide)
@[simp] theorem w_each_beside : (Str.ofString "each" = Str.ofString "beside") = False := eq_false (by decide)
@[simp] theorem w_each_then : (Str.ofString "each" = Str.ofString "then") = False := eq_false (by decide)
@[simp] theorem w_then_whole : (Str.ofString "then" = Str.ofString "whole") = False := eq_false (by decide)
@[simp] theorem w_then_pick : (Str.ofString "then" = Str.ofString "pick") = False := eq_false (by decide)
@[simp] theorem w_then_call : (Str.ofString "then" = Str.ofString "call") = False := eq_false (by decide)
@[simp] theorem w_then_sift : (Str.ofString "then" = Str.ofString "sift") = False := eq_false (by decide)
@[simp] theorem w_then_join : (Str.ofString "then" = Str.ofString "join") = False := eq_false (by decide)
@[simp] theorem w_then_beside : (Str.ofString "then" = Str.ofString "beside") = False := eq_false (by decide)
@[simp] theorem w_then_each : (Str.ofString "then" = Str.ofString "each") = False := eq_false (by decide)
mutual
def toD : Vw → D
  | .whole => .tuple [.str "whole"]
  | .pick s => .tuple [.str "pick", .str s]
  | .call a b => .tuple [.str "call", .str a, .str b]
  | .sift f k => .tuple [.str "sift", .str f, .int k]
  | .join a b fs => .tuple [.str "join", .str a, .str b, .tuple (fs.map .str)]
  | .beside rows => .tuple [.str "beside", .tuple (rowsD rows)]
  | .each v => .tuple [.str "each", toD v]
  | .thn v w => .tuple [.str "then", toD v, toD w]
def rowsD : List (Str × Str × Vw) → List D
  | [] => []
  | (a, b, v) :: r => .tuple [.str a, .str b, toD v] :: rowsD r
end
def rowD (r : Str × Str × Vw) : D := .tuple [.str r.1, .str r.2.1, toD r.2.2]
theorem rowsD_map : ∀ rows : List (Str × Str × Vw), rowsD rows = rows.map rowD
  | [] => by unfold rowsD; rfl
  | (a, b, v) :: r => by unfold rowsD; rw [rowsD_map r]; rfl
/-- a view that is one, of names among NS, so deep -/
inductive VG (NS : List Str) : Nat → Vw → Prop
  | whole (n : Nat) : VG NS (n + 1) .whole
  | pick (n : Nat) {s : Str} : s ∈ NS → VG NS (n + 1) (.pick s)
  | call (n : Nat) {a b : Str} : a ∈ NS → b ∈ NS → a ≠ b → VG NS (n + 1) (.call a b)
  | sift (n : Nat) {f : Str} {k : Int} : f ∈ NS → k.natAbs ≤ 999999999999999999999999999999 → VG NS (n + 1) (.sift f k)
  | join (n : Nat) {a b : Str} {fs : List Str} : a ∈ NS → b ∈ NS → a ≠ b → 1 ≤ fs.length → fs.length ≤ 6 → fs.Nodup → (∀ f ∈ fs, f ∈ NS) → VG NS (n + 1) (.join a b fs)
  | beside {n : Nat} {rows : List (Str × Str × Vw)} : 1 ≤ rows.length → rows.length ≤ 6 → (rows.map (·.1)).Nodup → (rows.map fun r => r.2.1).Nodup → (∀ r ∈ rows, r.1 ∈ NS) → (∀ r ∈ rows, r.2.1 ∈ NS) → (∀ r ∈ rows, VG NS n r.2.2) → VG NS (n + 3) (.beside rows)
  | each {n : Nat} {v : Vw} : VG NS n v → VG NS (n + 1) (.each v)
  | thn {n : Nat} {v w : Vw} : VG NS n v → VG NS n w → VG NS (n + 1) (.thn v w)
section
variable {NS : List Str}
theorem VG.ok {n : Nat} {v : Vw} (h : VG NS n v) : VOk v := by
  induction h with
  | whole => exact .whole
  | pick => exact .pick _
  | call _ _ _ ne => exact .call ne
  | sift => exact .sift _ _
  | join _ _ _ ne => exact .join _ ne
  | beside _ _ h1 h2 _ _ _ ih => exact .beside h1 h2 ih
  | each _ ih => exact .each ih
  | thn _ _ ih1 ih2 => exact .thn ih1 ih2
theorem VG.up {n : Nat} {v : Vw} (h : VG NS n v) : VG NS (n + 1) v := by
  induction h with
  | whole n => exact .whole _
  | pick n h => exact .pick _ h
  | call n h1 h2 h3 => exact .call _ h1 h2 h3
  | sift n h1 h2 => exact .sift _ h1 h2
  | join n h1 h2 h3 h4 h5 h6 h7 => exact .join _ h1 h2 h3 h4 h5 h6 h7
  | beside h1 h2 h3 h4 h5 h6 h7 ih => exact .beside h1 h2 h3 h4 h5 h6 ih
  | each _ ih => exact .each ih
  | thn _ _ ih1 ih2 => exact .thn ih1 ih2
theorem VG.mono {n m : Nat} {v : Vw} (h : VG NS n v) (l : n ≤ m) : VG NS m v := by
  induction l with
  | refl => exact h
  | step _ ih => exact ih.up
end
/-! ### what is all unlike -/
theorem all_true {α : Type} (xs : List α) : gAll [.list (xs.map fun _ => .bool true)] = some (.dat, .bool true) := by
  rw [gAll_map (fun _ => true)]; simp
theorem lcRows {vs : List Nat} {fi : EvI} {b : Bd} {e : Ev} {Γ : Env} {rows : List (Str × Str × Vw)} {f : Str × Str × Vw → D} (hi : fi Γ = .ok (rows.map rowD)) (hl : rows.length ≤ 1000)
    (h : ∀ r ∈ rows, ∃ Γ1, b (rowD r) (wipeE Γ vs) = some Γ1 ∧ ∃ m, (e Γ1).dat = .ok m (f r)) : eLC vs fi b eYes e Γ = .ok .own (.list (rows.map f)) := by
  refine eLC_ok hi (by rw [List.length_map]; exact hl) ?_
  clear hi hl
  induction rows with
  | nil => rfl
  | cons r rows ih =>
    obtain ⟨Γ1, h1, m, h2⟩ := h r List.mem_cons_self
    have ih := ih fun x hx => h x (List.mem_cons_of_mem _ hx)
    rw [List.map_cons, List.map_cons]
    unfold compL
    rw [h1]
    dsimp only
    rw [eYes_eq]
    dsimp only
    rw [eDat_eq, h2]
    dsimp only
    rw [ih]
section
variable {NS : List Str}
theorem gSl_tail (a : D) (r : List D) : gSl (.tuple (a :: r)) (some 1) none = some (.dat, .tuple r) := by
  show some (Md.dat, PyData.tuple (cutG (a :: r) (some 1) none)) = _
  have e : cutG (a :: r) (some 1) none = r := by
    unfold cutG
    have h1 : HT.sIx (a :: r).length 0 (some 1) = 1 := by
      have := HT.sIx_nat (a :: r).length 0 1
      rw [show ((1 : Nat) : Int) = 1 from rfl] at this
      rw [this]; simp
    rw [h1, HT.sIx_none]; simp
  rw [e]
@[simp] theorem eI_ok (f : Ev) (Γ : Env) (m : Md) (i : Int) (h : f Γ = .ok m (.int i)) : eI f Γ = .ok m (.int i) := by unfold eI; rw [h]
theorem eSl_tail {f : Ev} {Γ : Env} {m : Md} {a : D} {r : List D} (h : f Γ = .ok m (.tuple (a :: r))) : eSl f (eI (eC (.int 1))) (eC .none) Γ = .ok .dat (.tuple r) := by
  show (f Γ).bind _ = _
  rw [h]
  show (match gSl (.tuple (a :: r)) (some 1) none with
    | some (m, d) => Out.ok m d
    | none => .stuck) = _
  rw [gSl_tail]
end
end Vb
/-! Nb: what is shown: parts. -/
namespace Vb
open PySem L2
/-! ### found[g s] = h s, one behind another -/
def foldPut (g : Str → Str) (h : Str → D) (acc : List (Str × D)) (xs : List Str) : List (Str × D) := xs.foldl (fun acc s => kput acc (g s) (h s)) acc
theorem foldPut_snoc (g : Str → Str) (h : Str → D) (acc : List (Str × D)) (xs : List Str) (x : Str) : foldPut g h acc (xs ++ [x]) = kput (foldPut g h acc xs) (g x) (h x) := by
  unfold foldPut; rw [List.foldl_append]; rfl
theorem foldPut_nodup (g : Str → Str) (h : Str → D) : ∀ (xs : List Str) (acc : List (Str × D)), (keysK acc).Nodup → (keysK (foldPut g h acc xs)).Nodup
  | [], _, n => n
  | x :: xs, acc, n => foldPut_nodup g h xs _ (kput_nodup n)
theorem foldPut_mem (g : Str → Str) (h : Str → D) {y : Str} : ∀ (xs : List Str) (acc : List (Str × D)), y ∈ keysK (foldPut g h acc xs) ↔ (∃ s ∈ xs, y = g s) ∨ y ∈ keysK acc
  | [], _ => by simp [foldPut]
  | x :: xs, acc => by
    show y ∈ keysK (foldPut g h (kput acc (g x) (h x)) xs) ↔ _
    rw [foldPut_mem g h xs, kput_mem]
    constructor
    · rintro (⟨s, hs, e⟩ | e | e)
      · exact .inl ⟨s, List.mem_cons_of_mem _ hs, e⟩
      · exact .inl ⟨x, List.mem_cons_self, e⟩
      · exact .inr e
    · rintro (⟨s, hs, e⟩ | e)
      · rcases List.mem_cons.mp hs with rfl | hs
        · exact .inr (.inl e)
        · exact .inl ⟨s, hs, e⟩
      · exact .inr (.inr e)
theorem foldPut_off (g : Str → Str) (h : Str → D) {y : Str} : ∀ (xs : List Str) (acc : List (Str × D)), (∀ s ∈ xs, y ≠ g s) → (foldPut g h acc xs).lookup y = acc.lookup y
  | [], _, _ => rfl
  | x :: xs, acc, n => by
    show (foldPut g h (kput acc (g x) (h x)) xs).lookup y = _
    rw [foldPut_off g h xs _ fun s hs => n s (List.mem_cons_of_mem _ hs), lookup_kput, if_neg (n x List.mem_cons_self)]
theorem foldPut_at (g : Str → Str) (h : Str → D) : ∀ (xs : List Str) (acc : List (Str × D)), (∀ s ∈ xs, ∀ s' ∈ xs, g s = g s' → s = s') → xs.Nodup → ∀ s ∈ xs, (foldPut g h acc xs).lookup (g s) = some (h s)
  | x :: xs, acc, inj, nd, s, hs => by
    rw [List.nodup_cons] at nd
    show (foldPut g h (kput acc (g x) (h x)) xs).lookup (g s) = _
    rcases List.mem_cons.mp hs with rfl | hs
    · rw [foldPut_off g h xs _ fun s' hs' e => nd.1 (by
        have := inj s List.mem_cons_self s' (List.mem_cons_of_mem _ hs') e
        rw [this]; exact hs'), lookup_kput, if_pos rfl]
    · exact foldPut_at g h xs _ (fun a ha b hb => inj a (List.mem_cons_of_mem _ ha) b (List.mem_cons_of_mem _ hb)) nd.2 s hs
theorem foldPut_len (g : Str → Str) (h : Str → D) : ∀ (xs : List Str) (acc : List (Str × D)), (foldPut g h acc xs).length ≤ acc.length + xs.length
  | [], _ => Nat.le_refl _
  | x :: xs, acc => by
    have ih := foldPut_len g h xs (kput acc (g x) (h x))
    have : (kput acc (g x) (h x)).length ≤ acc.length + 1 := by
      unfold kput
      split
      · rw [List.length_map]; omega
      · rw [List.length_append]; exact Nat.le_refl _
    show (foldPut g h (kput acc (g x) (h x)) xs).length ≤ _
    rw [List.length_cons]
    omega
theorem dat_ok {m : Md} (d : D) (h : m ≠ .bor) : (Out.ok m d).dat = .ok .dat d := by cases m <;> first | rfl | exact absurd rfl h
theorem noBor_ok {m : Md} (d : D) (h : m ≠ .bor) : callO.noBor (Out.ok m d) = .ok m d := by cases m <;> first | rfl | exact absurd rfl h
theorem retO_ok {m : Md} (d : D) (h : m ≠ .bor) : retO m d = .ret m d := by cases m <;> first | rfl | exact absurd rfl h
theorem mdOf_ne (d : D) : mdOf d ≠ .bor := by cases d <;> simp [mdOf]
@[simp] theorem dat_md (d : D) : (Out.ok (mdOf d) d).dat = .ok .dat d := dat_ok d (mdOf_ne d)
@[simp] theorem noBor_md (d : D) : callO.noBor (Out.ok (mdOf d) d) = .ok (mdOf d) d := noBor_ok d (mdOf_ne d)
@[simp] theorem retO_md (d e : D) : retO (mdOf d) e = .ret (mdOf d) e := retO_ok e (mdOf_ne d)
section
variable {NS : List Str}
/-- a row that a sift shows, or doesn't -/
noncomputable def shnB (f : Str) (k : Int) (r : Str → Option T) : Bool := @decide (Shn f k r) (Classical.propDecidable _)
theorem shnB_iff {f : Str} {k : Int} {r : Str → Option T} : shnB f k r = true ↔ Shn f k r := by unfold shnB; exact @decide_eq_true_iff _ (Classical.propDecidable _)
theorem isTable_ok (N : Nms NS) {n : Nat} (hn : n ≤ 185) {kv : List (Str × D)} {m : Str → Option T} (h1 : (keysK kv).Nodup) (h2 : ∀ s ∈ keysK kv, s ∈ NS) (h3 : ∀ s, ORp (Rp NS n) (kv.lookup s) (m s)) (ht : IsTab m) : F_is_table [.dict (dk kv)] = .ok .dat (.bool true) := by
  have hl := kv_len N h1 h2
  have tr := isTree_rp N ((rp_dk h1 h2 h3 : Rp NS (n + 1) (.dict (dk kv)) (.node m)).mono (show n + 1 ≤ 186 by omega))
  unfold F_is_table
  rw [runS_eq]; unfold b_is_table
  rw [show env0 2 [PyData.dict (dk kv)] = [.dat (.dict (dk kv)), .un] from rfl]
  have l := lcStrs' (vs := [1]) (fi := iVal (eVar 0)) (b := bName 1) (e := eIsT "dict" (eBin gIx (eVar 0) (eVar 1))) (Γ := [.dat (.dict (dk kv)), .un]) (xs := keysK kv) (f := fun _ => .bool true)
    (iVal_dk (m := .dat) rfl (by simp)) (by rw [keysK_length]; omega) fun s hs => by
      obtain ⟨d, hd⟩ := Option.isSome_iff_exists.mp (lookup_isSome.mpr hs)
      obtain ⟨t, e, hr⟩ := (hd ▸ h3 s : ORp _ (some d) _).some1
      obtain ⟨r, rfl⟩ := ht s t e
      obtain ⟨k, kv', _, rfl, _⟩ := hr.node_inv
      refine ⟨_, rfl, .dat, ?_⟩
      simp [wipeE, gIx_dk hd]
  simp [tr, l, all_true]
end
end Vb
/-! Nc: sifted, called, joined. -/
namespace Vb
open PySem L2
def ktab (xs : List Str) (h : Str → D) : List (Str × D) := xs.map fun s => (s, h s)
theorem keys_ktab (xs : List Str) (h : Str → D) : keysK (ktab xs h) = xs := by
  unfold keysK ktab; rw [List.map_map]; exact List.map_id xs
theorem lookup_ktab (h : Str → D) (x : Str) : ∀ xs : List Str, (ktab xs h).lookup x = if x ∈ xs then some (h x) else none
  | [] => by simp [ktab]
  | s :: xs => by
    show List.lookup x ((s, h s) :: ktab xs h) = _
    rw [lookup_cons_str, lookup_ktab h x xs]
    by_cases e : x = s
    · subst e; simp
    · simp [e]
theorem gDict_tab {xs : List Str} {h : Str → D} (nd : xs.Nodup) : gDict [.list (xs.map fun s => .tuple [.str s, h s])] = some (.own, .dict (dk (ktab xs h))) := by
  have e : (xs.map fun s => PyData.tuple [.str s, h s]) = (ktab xs h).map fun p => .tuple [.str p.1, p.2] := by unfold ktab; rw [List.map_map]; rfl
  rw [e, gDict_list, kmerge_self (by rw [keys_ktab]; exact nd)]
theorem ORp.or {R : D → T → Prop} {o o' : Option D} {p p' : Option T} (h : ORp R o p) (h' : ORp R o' p') : ORp R (o.or o') (p.or p') := by
  cases o <;> cases p <;> first | exact h | exact h.elim | exact h'
theorem nodup_filter {xs : List Str} (p : Str → Bool) (h : xs.Nodup) : (xs.filter p).Nodup := h.sublist List.filter_sublist
theorem sPut_ok {i : Nat} {fk fe : Ev} {Γ : Env} {v : D} {m m2 : Md} {kv : List (Str × D)} {s : Str} (h1 : (fe Γ).dat = .ok m v) (h2 : Γ[i]? = some (.own (.dict (dk kv)))) (h3 : fk Γ = .ok m2 (.str s)) (h4 : kv.length ≤ 1000) :
    sPut i fk fe Γ = .nx (Γ.set i (.own (.dict (dk (kput kv s v))))) := by
  unfold sPut
  rw [eDat_eq, h1]
  show (match Γ[i]? with
    | some (.own d) => (fk Γ).toS fun _ k => (match putD d k v with
      | some d' => .nx (Γ.set i (.own d'))
      | none => .stuck)
    | _ => .stuck) = _
  rw [h2]
  show ((fk Γ).toS fun _ k => (match putD (.dict (dk kv)) k v with
      | some d' => .nx (Γ.set i (.own d'))
      | none => .stuck)) = _
  rw [h3]
  show (match putD (.dict (dk kv)) (.str s) v with
      | some d' => SOut.nx (Γ.set i (.own d'))
      | none => .stuck) = _
  have e : putD (.dict (dk kv)) (.str s) v = some (.dict (dk (kput kv s v))) := by
    show (if isKey (.str s) = true ∧ (dk kv).length ≤ 1000 then some (PyData.dict (dput (dk kv) (.str s) v)) else none) = _
    rw [if_pos ⟨rfl, by rw [dk_length]; exact h4⟩, dput_dk]
  rw [e]
/-- a loop over texts whose body goes on -/
theorem loopStr {b : Bd} {f : Ss} (I : List Str → Env → Prop) : ∀ (xs done : List Str) {Γ : Env}, I done Γ → (∀ dn s r Γ, dn ++ s :: r = done ++ xs → I dn Γ → ∃ Γ1 Γ2, b (.str s) Γ = some Γ1 ∧ f Γ1 = .nx Γ2 ∧ I (dn ++ [s]) Γ2) →
    ∃ Γ', loopS b f (xs.map .str) Γ = .nx Γ' ∧ I (done ++ xs) Γ'
  | [], done, Γ, h, _ => ⟨Γ, rfl, by rw [List.append_nil]; exact h⟩
  | x :: xs, done, Γ, h, st => by
    obtain ⟨Γ1, Γ2, h1, h2, h3⟩ := st done x xs Γ rfl h
    obtain ⟨Γ', h4, h5⟩ := loopStr I xs (done ++ [x]) h3 fun dn s r G e => st dn s r G (by rw [e, List.append_assoc]; rfl)
    refine ⟨Γ', ?_, by rw [List.append_assoc] at h5; exact h5⟩
    rw [List.map_cons]
    unfold loopS
    rw [h1]
    dsimp only
    rw [h2]
    exact h4
theorem sFor_strs {fi : EvI} {b : Bd} {f : Ss} {Γ : Env} {xs : List Str} (I : List Str → Env → Prop) (hi : fi Γ = .ok (xs.map .str)) (h0 : I [] Γ)
    (st : ∀ dn s r Γ, dn ++ s :: r = xs → I dn Γ → ∃ Γ1 Γ2, b (.str s) Γ = some Γ1 ∧ f Γ1 = .nx Γ2 ∧ I (dn ++ [s]) Γ2) : ∃ Γ', sFor fi b f Γ = .nx Γ' ∧ I xs Γ' := by
  obtain ⟨Γ', h1, h2⟩ := loopStr (b := b) (f := f) I xs [] h0 fun dn s r G e => st dn s r G (by simpa using e)
  exact ⟨Γ', by unfold sFor; rw [hi]; exact h1, by simpa using h2⟩
section
variable {NS : List Str}
/-- the rows of a table -/
theorem tab_row {n : Nat} {kv : List (Str × D)} {m : Str → Option T} (h3 : ∀ s, ORp (Rp NS n) (kv.lookup s) (m s)) (ht : IsTab m) {s : Str} (hs : s ∈ keysK kv) : ∃ k kv' r, n = k + 1 ∧ kv.lookup s = some (.dict (dk kv')) ∧ m s = some (.node r) ∧ (keysK kv').Nodup ∧ (∀ s ∈ keysK kv', s ∈ NS) ∧ ∀ s, ORp (Rp NS k) (kv'.lookup s) (r s) := by
  obtain ⟨d, hd⟩ := Option.isSome_iff_exists.mp (lookup_isSome.mpr hs)
  obtain ⟨t, e, hr⟩ := (hd ▸ h3 s : ORp _ (some d) _).some1
  obtain ⟨r, rfl⟩ := ht s t e
  obtain ⟨k, kv', e1, rfl, h⟩ := hr.node_inv
  exact ⟨k, kv', r, e1, hd, e, h⟩
theorem at_key {n : Nat} {kv : List (Str × D)} {m : Str → Option T} (h3 : ∀ s, ORp (Rp NS n) (kv.lookup s) (m s)) {s : Str} (hs : s ∈ keysK kv) : ∃ d t, kv.lookup s = some d ∧ m s = some t ∧ Rp NS n d t := by
  obtain ⟨d, hd⟩ := Option.isSome_iff_exists.mp (lookup_isSome.mpr hs)
  obtain ⟨t, e, hr⟩ := (hd ▸ h3 s : ORp _ (some d) _).some1
  exact ⟨d, t, hd, e, hr⟩
end
end Vb
/-! Nd: need_tables, joined. -/
namespace Vb
open PySem L2
/-- the rows of a dict -/
def undkL : List (D × D) → List (Str × D)
  | [] => []
  | (.str s, d) :: l => (s, d) :: undkL l
  | _ :: l => undkL l
def undk : Option D → List (Str × D)
  | some (.dict l) => undkL l
  | _ => []
theorem undkL_dk : ∀ kr : List (Str × D), undkL (dk kr) = kr
  | [] => rfl
  | (s, d) :: kr => by rw [dk_cons]; show (s, d) :: undkL (dk kr) = _; rw [undkL_dk kr]
theorem undk_dk (kr : List (Str × D)) : undk (some (.dict (dk kr))) = kr := undkL_dk kr
section
variable {NS : List Str}
theorem rp_tab (N : Nms NS) {n : Nat} (hn : n ≤ 185) {d : D} {p : Str → Option T} (h : Rp NS n d (.node p)) (ht : IsTab p) : F_is_table [d] = .ok .dat (.bool true) := by
  obtain ⟨k, kv, rfl, rfl, h1, h2, h3⟩ := h.node_inv
  exact isTable_ok N (by omega) h1 h2 h3 ht
theorem row_names {n : Nat} {kv : List (Str × D)} {r : Str → Option T} (h3 : ∀ s, ORp (Rp NS n) (kv.lookup s) (r s)) {x : Str} (hx : x ∈ keysK kv) : (r x).isSome := by
  rw [← (h3 x).isSome]; exact lookup_isSome.mpr hx
end
end Vb
/-! Ne: what is shown. -/
namespace Vb
open PySem L2
section
variable {NS : List Str}
theorem gIx_row0 (r : Str × Str × Vw) : gIx (rowD r) (.int 0) = some (.dat, .str r.1) := gIx_t0 _ _
theorem gIx_row1 (r : Str × Str × Vw) : gIx (rowD r) (.int 1) = some (.dat, .str r.2.1) := gIx_t1 _ _ _
theorem gIx_row2 (r : Str × Str × Vw) : gIx (rowD r) (.int 2) = some (.dat, toD r.2.2) := gIx_t2 _ _ _ _
/-- a promise about some value for each of the keys, as a function -/
theorem choose_fun {α : Type} {xs : List Str} {P : Str → α → Prop} (df : α) (h : ∀ s ∈ xs, ∃ d, P s d) : ∃ f : Str → α, ∀ s ∈ xs, P s (f s) := by
  classical
  exact ⟨fun s => if hs : s ∈ xs then (h s hs).choose else df, fun s hs => by simp only [dif_pos hs]; exact (h s hs).choose_spec⟩
theorem choose_rows {α : Type} {rows : List (Str × Str × Vw)} {P : (Str × Str × Vw) → α → Prop} (df : α) (h : ∀ s ∈ rows, ∃ d, P s d) : ∃ f : (Str × Str × Vw) → α, ∀ s ∈ rows, P s (f s) := by
  classical
  exact ⟨fun s => if hs : s ∈ rows then (h s hs).choose else df, fun s hs => by simp only [dif_pos hs]; exact (h s hs).choose_spec⟩
theorem lookup_rows {rows : List (Str × Str × Vw)} (nd : (rows.map (·.1)).Nodup) (f : (Str × Str × Vw) → D) {r : Str × Str × Vw} (hr : r ∈ rows) : (rows.map fun r => (r.1, f r)).lookup r.1 = some (f r) :=
  lookup_of_mem (by unfold keysK; rw [List.map_map]; exact nd) (List.mem_map.mpr ⟨r, hr, rfl⟩)
theorem lookup_rows_off {rows : List (Str × Str × Vw)} (f : (Str × Str × Vw) → D) {x : Str} (h : x ∉ rows.map (·.1)) : (rows.map fun r => (r.1, f r)).lookup x = none := by
  cases e : (rows.map fun r => (r.1, f r)).lookup x with
  | none => rfl
  | some d =>
    have := lookup_isSome.mp (show ((rows.map fun r => (r.1, f r)).lookup x).isSome by rw [e]; rfl)
    unfold keysK at this
    rw [List.map_map] at this
    exact absurd this h
end
end Vb
/-! Nf: put back: need_put, is_branch_of, lonely, is_table of any tree. -/
namespace Vb
open PySem L2
def bad (ws : List D) (kind : Str) (part : D) : Exn := ⟨"BadPut", [("part", part), ("kind", .str kind), ("way", .list ws)]⟩
section
variable {NS : List Str}
theorem letB_small {c : Nat} (h : letB c = true) : c < 1114112 := by
  unfold letB at h
  rw [decide_eq_true_eq] at h
  have all : ∀ c ∈ lettersS.cps.toList, c < 1114112 := by decide +kernel
  exact all c h
theorem strOk_nm {s : Str} (h : nmB s = true) : PyData.strOk s = true := by
  unfold nmB at h
  simp only [Bool.and_eq_true, decide_eq_true_eq] at h
  unfold PyData.strOk
  rw [Array.all_eq_true']
  intro c hc
  have := List.all_eq_true.mp h.2.2 c (by simpa using hc)
  exact decide_eq_true (letB_small this)
theorem canLay_strs : ∀ {xs : List Str}, (∀ s ∈ xs, nmB s = true) → PyData.canLayAll0 (xs.map .str) = true
  | [], _ => by simp [PyData.canLayAll0]
  | x :: xs, h => by
    rw [List.map_cons]
    unfold PyData.canLayAll0
    rw [canLay_strs fun s hs => h s (List.mem_cons_of_mem _ hs)]
    unfold PyData.canLay0
    rw [strOk_nm (h x List.mem_cons_self)]; rfl
theorem depth_strs : ∀ xs : List Str, PyData.depthAll (xs.map .str) = 0
  | [] => by simp [PyData.depthAll]
  | x :: xs => by
    rw [List.map_cons]
    unfold PyData.depthAll
    rw [depth_strs xs]; unfold PyData.depth; rfl
theorem shaped_strs {xs : List Str} (h : ∀ s ∈ xs, nmB s = true) : SeqAt.shaped (.list (xs.map .str)) = true := by
  unfold SeqAt.shaped PyData.canLay0 PyData.depth
  rw [canLay_strs h, depth_strs]; rfl
theorem eqvAll_strs : ∀ xs ys : List Str, PyData.eqvAll (xs.map .str) (ys.map .str) = decide (xs = ys)
  | [], [] => by simp [PyData.eqvAll]
  | [], _ :: _ => by simp [PyData.eqvAll]
  | _ :: _, [] => by simp [PyData.eqvAll]
  | x :: xs, y :: ys => by
    rw [List.map_cons, List.map_cons]
    unfold PyData.eqvAll
    rw [eqvAll_strs xs ys]
    unfold PyData.eqv
    rw [Bool.eq_iff_iff]
    simp
theorem eqv_strs (xs ys : List Str) : PyData.eqv (.list (xs.map .str)) (.list (ys.map .str)) = decide (xs = ys) := by
  unfold PyData.eqv; exact eqvAll_strs xs ys
theorem gEq_strs {xs ys : List Str} (h1 : ∀ s ∈ xs, nmB s = true) (h2 : ∀ s ∈ ys, nmB s = true) : gEq (.list (xs.map .str)) (.list (ys.map .str)) = some (.dat, .bool (decide (xs = ys))) := by
  unfold gEq eqOk
  rw [shaped_strs h1, shaped_strs h2, eqv_strs]
  simp
theorem perm_same {xs ys : List Str} (h1 : xs.Nodup) (h2 : ys.Nodup) : xs.Perm ys ↔ ∀ s, s ∈ xs ↔ s ∈ ys := ⟨fun p s => p.mem_iff, fun h => (List.perm_ext_iff_of_nodup h1 h2).mpr h⟩
theorem isTable_no (N : Nms NS) {n : Nat} (hn : n ≤ 185) {d : D} {t : T} (h : Rp NS (n + 1) d t) (ht : ∀ m, t = .node m → ¬ IsTab m) : F_is_table [d] = .ok .dat (.bool false) := by
  rcases h.cases with ⟨i, rfl, rfl⟩ | ⟨k, kv, m, e, rfl, rfl, h1, h2, h3⟩
  · rfl
  · cases e
    have hl := kv_len N h1 h2
    have tr := isTree_rp N (h.mono (show n + 1 ≤ 186 by omega))
    unfold F_is_table
    rw [runS_eq]; unfold b_is_table
    rw [show env0 2 [PyData.dict (dk kv)] = [.dat (.dict (dk kv)), .un] from rfl]
    let f : Str → Bool := fun s => match kv.lookup s with
      | some (.dict _) => true
      | _ => false
    have l := lcStrs' (vs := [1]) (fi := iVal (eVar 0)) (b := bName 1) (e := eIsT "dict" (eBin gIx (eVar 0) (eVar 1))) (Γ := [.dat (.dict (dk kv)), .un]) (xs := keysK kv) (f := fun s => .bool (f s))
      (iVal_dk (m := .dat) rfl (by simp)) (by rw [keysK_length]; omega) fun s hs => by
        obtain ⟨d, t, hd, ht, hr⟩ := at_key h3 hs
        refine ⟨_, rfl, .dat, ?_⟩
        simp [wipeE, gIx_dk hd, f, hd]
        rcases hr.cases with ⟨i, rfl, rfl⟩ | ⟨k, kv, m, e, rfl, rfl, _⟩ <;> simp
    simp [tr, l]
    rw [gAll_map f]
    have : (keysK kv).all f = false := by
      rw [Bool.eq_false_iff]
      intro z
      refine ht m rfl fun s t e => ?_
      have hs : s ∈ keysK kv := lookup_isSome.mp (by rw [(h3 s).isSome, e]; rfl)
      obtain ⟨d, t', hd, ht', hr⟩ := at_key h3 hs
      rw [e] at ht'; cases ht'
      have := List.all_eq_true.mp z s hs
      simp only [f, hd] at this
      rcases hr.cases with ⟨i, rfl, rfl⟩ | ⟨k, kv, m, e, rfl, rfl, _⟩
      · cases this
      · exact ⟨m, rfl⟩
    rw [this]
    simp
end
end Vb
/-! Nn: the law's look: is_table, high. -/
namespace Vb
open PySem L2
section
variable {NS : List Str}
theorem gEq_nil {xs : List Str} (h1 : ∀ s ∈ xs, nmB s = true) : gEq (.list (xs.map .str)) (.list []) = some (.dat, .bool (decide (xs = []))) := gEq_strs (ys := []) h1 (by simp)
theorem gNe_nil {xs : List Str} (h1 : ∀ s ∈ xs, nmB s = true) : gNe (.list (xs.map .str)) (.list []) = some (.dat, .bool (!decide (xs = []))) := by
  have e : gNe (.list (xs.map .str)) (.list []) = some (.dat, .bool (!PyData.eqv (.list (xs.map .str)) (.list []))) := by
    unfold gNe eqOk
    rw [shaped_strs h1, show SeqAt.shaped (.list []) = true from rfl]
    simp
  rw [e]
  have := eqv_strs xs []
  rw [List.map_nil] at this
  rw [this]
/-- whether a dict's parts are dicts -/
def tabK (kv : List (Str × D)) : Bool := (keysK kv).all fun s => match kv.lookup s with
  | some (.dict _) => true
  | _ => false
theorem tabK_iff {n : Nat} {kv : List (Str × D)} {m : Str → Option T} (h3 : ∀ s, ORp (Rp NS n) (kv.lookup s) (m s)) : tabK kv = true ↔ IsTab m := by
  constructor
  · intro z s t e
    have hs : s ∈ keysK kv := lookup_isSome.mp (by rw [(h3 s).isSome, e]; rfl)
    obtain ⟨d, t', hd, ht', hr⟩ := at_key h3 hs
    rw [e] at ht'; cases ht'
    have := List.all_eq_true.mp z s hs
    rw [hd] at this
    rcases hr.cases with ⟨i, rfl, rfl⟩ | ⟨k, kv, m, e, rfl, rfl, _⟩
    · cases this
    · exact ⟨m, rfl⟩
  · intro z
    refine List.all_eq_true.mpr fun s hs => ?_
    obtain ⟨k, kr, r, _, e, _⟩ := tab_row h3 z hs
    rw [e]
end
end Vb
/-! No: the law's look: joins. -/
namespace Vb
open PySem L2
/-- a loop over texts, each turn goes on or returns None -/
theorem loopStr_ret {b : Bd} {f : Ss} (I : List Str → Env → Prop) (Er : Str → Prop) (d : D) : ∀ (xs done : List Str) {Γ : Env}, I done Γ →
    (∀ dn s r Γ, dn ++ s :: r = done ++ xs → I dn Γ → (∃ Γ1 Γ2, b (.str s) Γ = some Γ1 ∧ f Γ1 = .nx Γ2 ∧ I (dn ++ [s]) Γ2) ∨ ∃ Γ1, b (.str s) Γ = some Γ1 ∧ f Γ1 = .ret .dat d ∧ Er s) →
    (∃ Γ', loopS b f (xs.map .str) Γ = .nx Γ' ∧ I (done ++ xs) Γ') ∨ ∃ s ∈ xs, loopS b f (xs.map .str) Γ = .ret .dat d ∧ Er s
  | [], done, Γ, h, _ => .inl ⟨Γ, rfl, by rw [List.append_nil]; exact h⟩
  | x :: xs, done, Γ, h, st => by
    rcases st done x xs Γ rfl h with ⟨Γ1, Γ2, h1, h2, h3⟩ | ⟨Γ1, h1, h2, h3⟩
    · rcases loopStr_ret I Er d xs (done ++ [x]) h3 fun dn s r G e => st dn s r G (by rw [e, List.append_assoc]; rfl) with ⟨Γ', h4, h5⟩ | ⟨s, k1, k2, k3⟩
      · refine .inl ⟨Γ', ?_, by rw [List.append_assoc] at h5; exact h5⟩
        rw [List.map_cons]; unfold loopS; rw [h1]; dsimp only; rw [h2]; exact h4
      · refine .inr ⟨s, List.mem_cons_of_mem _ k1, ?_, k3⟩
        rw [List.map_cons]; unfold loopS; rw [h1]; dsimp only; rw [h2]; exact k2
    · refine .inr ⟨x, List.mem_cons_self, ?_, h3⟩
      rw [List.map_cons]; unfold loopS; rw [h1]; dsimp only; rw [h2]
theorem sFor_ret {fi : EvI} {b : Bd} {f : Ss} {Γ : Env} {xs : List Str} (I : List Str → Env → Prop) (Er : Str → Prop) (d : D) (hi : fi Γ = .ok (xs.map .str)) (h0 : I [] Γ)
    (st : ∀ dn s r Γ, dn ++ s :: r = xs → I dn Γ → (∃ Γ1 Γ2, b (.str s) Γ = some Γ1 ∧ f Γ1 = .nx Γ2 ∧ I (dn ++ [s]) Γ2) ∨ ∃ Γ1, b (.str s) Γ = some Γ1 ∧ f Γ1 = .ret .dat d ∧ Er s) :
    (∃ Γ', sFor fi b f Γ = .nx Γ' ∧ I xs Γ') ∨ ∃ s ∈ xs, sFor fi b f Γ = .ret .dat d ∧ Er s := by
  have e : sFor fi b f Γ = loopS b f (xs.map .str) Γ := by unfold sFor; rw [hi]
  rw [e]
  have z := loopStr_ret (b := b) (f := f) I Er d xs [] h0 fun dn s r G e => st dn s r G (by simpa using e)
  simpa using z
/-- what the law's look comes to -/
def SeenAt (NS : List Str) (K : Nat) (o : Out) : Option T → Prop
  | some r => ∃ m d, o = .ok m d ∧ m ≠ .bor ∧ Rp NS K d r
  | none => o = .ok .dat .none
end Vb
/-! Np: the law's joins. -/
namespace Vb
open PySem L2
section
variable {NS : List Str}
theorem kmerge_app (ka kb : List (Str × D)) (h : (keysK ka).Nodup) : kmerge [] (ka ++ kb) = kmerge ka kb := by
  unfold kmerge
  rw [List.foldl_append]
  show kmerge (kmerge [] ka) kb = kmerge ka kb
  rw [kmerge_self h]
def hJ (kp kq : List (Str × D)) (s : Str) : D := .dict (dk (kmerge (undk (kp.lookup s)) (undk (kq.lookup s))))
def selJ (kq : List (Str × D)) (xs : List Str) : List Str := xs.filter fun s => (kq.lookup s).isSome
theorem both_rp (N : Nms NS) {n : Nat} {kp kq : List (Str × D)} {p q : Str → Option T}
    (p1 : (keysK kp).Nodup) (p2 : ∀ s ∈ keysK kp, s ∈ NS) (p3 : ∀ s, ORp (Rp NS n) (kp.lookup s) (p s)) (q1 : (keysK kq).Nodup) (q2 : ∀ s ∈ keysK kq, s ∈ NS) (q3 : ∀ s, ORp (Rp NS n) (kq.lookup s) (q s))
    (tp : IsTab p) (tq : IsTab q) : Rp NS (n + 1) (.dict (dk (foldPut id (hJ kp kq) [] (selJ kq (keysK kp))))) (.node (both p q)) := by
  let h := hJ kp kq
  let sel := selJ kq
  have mem : ∀ y, y ∈ sel (keysK kp) ↔ y ∈ keysK kp ∧ (kq.lookup y).isSome := fun y => List.mem_filter
  have ndp : (sel (keysK kp)).Nodup := p1.sublist List.filter_sublist
  refine rp_dk (foldPut_nodup id h _ _ (by simp [keysK])) (fun y hy => ?_) fun y => ?_
  · rcases (foldPut_mem id h _ _).mp hy with ⟨s, hs, rfl⟩ | z
    · exact p2 _ ((mem _).mp hs).1
    · simp [keysK] at z
  · show ORp _ ((foldPut id h [] (sel (keysK kp))).lookup y) _
    by_cases c : y ∈ sel (keysK kp)
    · obtain ⟨c1, c2⟩ := (mem y).mp c
      have z := foldPut_at id h (sel (keysK kp)) [] (fun _ _ _ _ e => e) ndp y c
      simp only [id] at z
      rw [z]
      obtain ⟨k, ka, rr, e1, e2, e3, g1, g2, g3⟩ := tab_row p3 tp c1
      obtain ⟨k', kb, rr', f1, f2, f3, f4, f5, f6⟩ := tab_row q3 tq (lookup_isSome.mp c2)
      have ek : k' = k := by omega
      subst ek
      rw [both_at e3 f3]
      simp only [h, hJ, e2, f2, undk_dk]
      rw [e1]
      exact rp_dk (kmerge_nodup _ _ g1) (fun x hx => by
        rcases (kmerge_mem _ _).mp hx with hx | hx
        · exact f5 x hx
        · exact g2 x hx) fun x => by
        rw [lookup_kmerge x kb ka f4]
        exact (f6 x).or (g3 x)
    · rw [foldPut_off id h _ _ fun s hs e => c (by simp only [id] at e; rw [e]; exact hs)]
      have : both p q y = none := by
        cases ep : p y with
        | none => exact both_none1 ep
        | some t =>
          cases eq : q y with
          | none => exact both_none2 eq
          | some t' =>
            refine absurd ((mem y).mpr ⟨lookup_isSome.mp ?_, ?_⟩) c
            · rw [(p3 y).isSome, ep]; rfl
            · rw [(q3 y).isSome, eq]; rfl
      rw [this]
      trivial
def jEnv (V : D) (kv kp kq : List (Str × D)) (sv s5 : SV) : Env := [.dat V, .dat (.dict (dk kv)), .dat (.dict (dk kp)), .dat (.dict (dk kq)), sv, s5, .un]
theorem chk2 (N : Nms NS) {n : Nat} {kv kp kq : List (Str × D)} {p : Str → Option T} {a b : Str} {fs : List Str} (p1 : (keysK kp).Nodup) (p2 : ∀ s ∈ keysK kp, s ∈ NS) (p3 : ∀ s, ORp (Rp NS n) (kp.lookup s) (p s)) (tp : IsTab p) (sv : SV) :
    (∃ sv', sFor (iVal (eVar 2)) (bName 4) (sIf (eBin gNe (eLC [6] (iVal (eBin gIx (eVar 2) (eVar 4))) (bName 6) (eBin gNotIn (eVar 6) (eBin gIx (eVar 0) (eC (.int 3)))) (eVar 6)) (eLst aNil)) (sRet (eC .none)) sNil)
      (jEnv (.tuple [.str "join", .str a, .str b, .tuple (fs.map .str)]) kv kp kq sv .un) = .nx (jEnv (.tuple [.str "join", .str a, .str b, .tuple (fs.map .str)]) kv kp kq sv' .un) ∧ FldIn fs p) ∨
    (sFor (iVal (eVar 2)) (bName 4) (sIf (eBin gNe (eLC [6] (iVal (eBin gIx (eVar 2) (eVar 4))) (bName 6) (eBin gNotIn (eVar 6) (eBin gIx (eVar 0) (eC (.int 3)))) (eVar 6)) (eLst aNil)) (sRet (eC .none)) sNil)
      (jEnv (.tuple [.str "join", .str a, .str b, .tuple (fs.map .str)]) kv kp kq sv .un) = .ret .dat .none ∧ ¬ FldIn fs p) := by
  have hl := kv_len N p1 p2
  have l := sFor_ret (fi := iVal (eVar 2)) (b := bName 4) (f := sIf (eBin gNe (eLC [6] (iVal (eBin gIx (eVar 2) (eVar 4))) (bName 6) (eBin gNotIn (eVar 6) (eBin gIx (eVar 0) (eC (.int 3)))) (eVar 6)) (eLst aNil)) (sRet (eC .none)) sNil)
    (Γ := jEnv (.tuple [.str "join", .str a, .str b, .tuple (fs.map .str)]) kv kp kq sv .un) (xs := keysK kp)
    (fun dn Γ => (∃ sv', Γ = jEnv (.tuple [.str "join", .str a, .str b, .tuple (fs.map .str)]) kv kp kq sv' .un) ∧ ∀ s ∈ dn, ∀ r x, p s = some (.node r) → (r x).isSome → x ∈ fs)
    (fun s => ∃ r x, p s = some (.node r) ∧ (r x).isSome ∧ ¬ (x ∈ fs)) .none
    (iVal_dk (m := .dat) rfl (by simp)) ⟨⟨_, rfl⟩, fun _ h => absurd h (by simp)⟩ fun dn s r Γ e ⟨⟨sv', e2⟩, hdn⟩ => by
      subst e2
      have hs : s ∈ keysK kp := by rw [← e]; simp
      obtain ⟨k, kr, rr, e1, e2, e3, g1, g2, g3⟩ := tab_row p3 tp hs
      have hlr := kv_len N g1 g2
      let pB : Str → Bool := fun x => !decide (x ∈ fs)
      have l := lcStrs (vs := [6]) (fi := iVal (eBin gIx (eVar 2) (eVar 4))) (b := bName 6) (t := eBin gNotIn (eVar 6) (eBin gIx (eVar 0) (eC (.int 3)))) (e := eVar 6)
        (Γ := jEnv (.tuple [.str "join", .str a, .str b, .tuple (fs.map .str)]) kv kp kq (.dat (.str s)) .un) (xs := keysK kr) (p := pB) (f := PyData.str) (iVal_dk (m := .dat) (by simp [jEnv, gIx_dk e2]) (by simp)) (by rw [keysK_length]; omega) fun x hx => by
          refine ⟨_, rfl, ⟨.dat, ?_⟩, fun _ => ⟨.dat, ?_⟩⟩
          · simp [jEnv, wipeE, pB]
          · simp [jEnv, wipeE]
      have g := gNe_nil (xs := (keysK kr).filter pB) fun x hx => N.nm x (g2 x (List.mem_filter.mp hx).1)
      have g0 : gNe (.list []) (.list []) = some (.dat, .bool false) := gNe_nil (xs := []) (by simp)
      by_cases c : (keysK kr).filter pB = []
      · left
        refine ⟨_, jEnv (.tuple [.str "join", .str a, .str b, .tuple (fs.map .str)]) kv kp kq (.dat (.str s)) .un, rfl, ?_, ⟨_, rfl⟩, ?_⟩
        · show sIf _ _ _ (jEnv (.tuple [.str "join", .str a, .str b, .tuple (fs.map .str)]) kv kp kq (.dat (.str s)) .un) = _
          rw [c, List.map_nil] at l
          simp [l, g0]
        · intro s' hs' r' x hr hx
          rcases List.mem_append.mp hs' with z | z
          · exact hdn s' z r' x hr hx
          · rw [List.mem_singleton.mp z, e3] at hr
            cases hr
            have hk : x ∈ keysK kr := lookup_isSome.mp (by rw [(g3 x).isSome]; exact hx)
            have := List.filter_eq_nil_iff.mp c x hk
            simpa [pB] using this
      · right
        refine ⟨_, rfl, ?_, ?_⟩
        · show sIf _ _ _ (jEnv (.tuple [.str "join", .str a, .str b, .tuple (fs.map .str)]) kv kp kq (.dat (.str s)) .un) = _
          simp [l, g, c]
        · obtain ⟨x, hx⟩ := List.exists_mem_of_ne_nil _ c
          obtain ⟨h5, h6⟩ := List.mem_filter.mp hx
          exact ⟨rr, x, e3, row_names g3 h5, by simpa [pB] using h6⟩
  rcases l with ⟨Γ', h4, ⟨sv', rfl⟩, h5⟩ | ⟨s, _, h4, r, x, h5, h6, h7⟩
  · refine .inl ⟨sv', h4, fun s r x hr hx => h5 s ?_ r x hr hx⟩
    exact lookup_isSome.mp (by rw [(p3 s).isSome, hr]; rfl)
  · exact .inr ⟨h4, fun z => h7 (z s r x h5 h6)⟩
theorem chk3 (N : Nms NS) {n : Nat} {kv kp kq : List (Str × D)} {q : Str → Option T} {a b : Str} {fs : List Str} (q1 : (keysK kq).Nodup) (q2 : ∀ s ∈ keysK kq, s ∈ NS) (q3 : ∀ s, ORp (Rp NS n) (kq.lookup s) (q s)) (tp : IsTab q) (sv : SV) :
    (∃ sv', sFor (iVal (eVar 3)) (bName 4) (sIf (eBin gNe (eLC [6] (iVal (eBin gIx (eVar 3) (eVar 4))) (bName 6) (eBin gIn (eVar 6) (eBin gIx (eVar 0) (eC (.int 3)))) (eVar 6)) (eLst aNil)) (sRet (eC .none)) sNil)
      (jEnv (.tuple [.str "join", .str a, .str b, .tuple (fs.map .str)]) kv kp kq sv .un) = .nx (jEnv (.tuple [.str "join", .str a, .str b, .tuple (fs.map .str)]) kv kp kq sv' .un) ∧ FldOut fs q) ∨
    (sFor (iVal (eVar 3)) (bName 4) (sIf (eBin gNe (eLC [6] (iVal (eBin gIx (eVar 3) (eVar 4))) (bName 6) (eBin gIn (eVar 6) (eBin gIx (eVar 0) (eC (.int 3)))) (eVar 6)) (eLst aNil)) (sRet (eC .none)) sNil)
      (jEnv (.tuple [.str "join", .str a, .str b, .tuple (fs.map .str)]) kv kp kq sv .un) = .ret .dat .none ∧ ¬ FldOut fs q) := by
  have hl := kv_len N q1 q2
  have l := sFor_ret (fi := iVal (eVar 3)) (b := bName 4) (f := sIf (eBin gNe (eLC [6] (iVal (eBin gIx (eVar 3) (eVar 4))) (bName 6) (eBin gIn (eVar 6) (eBin gIx (eVar 0) (eC (.int 3)))) (eVar 6)) (eLst aNil)) (sRet (eC .none)) sNil)
    (Γ := jEnv (.tuple [.str "join", .str a, .str b, .tuple (fs.map .str)]) kv kp kq sv .un) (xs := keysK kq)
    (fun dn Γ => (∃ sv', Γ = jEnv (.tuple [.str "join", .str a, .str b, .tuple (fs.map .str)]) kv kp kq sv' .un) ∧ ∀ s ∈ dn, ∀ r x, q s = some (.node r) → (r x).isSome → x ∉ fs)
    (fun s => ∃ r x, q s = some (.node r) ∧ (r x).isSome ∧ ¬ (x ∉ fs)) .none
    (iVal_dk (m := .dat) rfl (by simp)) ⟨⟨_, rfl⟩, fun _ h => absurd h (by simp)⟩ fun dn s r Γ e ⟨⟨sv', e2⟩, hdn⟩ => by
      subst e2
      have hs : s ∈ keysK kq := by rw [← e]; simp
      obtain ⟨k, kr, rr, e1, e2, e3, g1, g2, g3⟩ := tab_row q3 tp hs
      have hlr := kv_len N g1 g2
      let pB : Str → Bool := fun x => decide (x ∈ fs)
      have l := lcStrs (vs := [6]) (fi := iVal (eBin gIx (eVar 3) (eVar 4))) (b := bName 6) (t := eBin gIn (eVar 6) (eBin gIx (eVar 0) (eC (.int 3)))) (e := eVar 6)
        (Γ := jEnv (.tuple [.str "join", .str a, .str b, .tuple (fs.map .str)]) kv kp kq (.dat (.str s)) .un) (xs := keysK kr) (p := pB) (f := PyData.str) (iVal_dk (m := .dat) (by simp [jEnv, gIx_dk e2]) (by simp)) (by rw [keysK_length]; omega) fun x hx => by
          refine ⟨_, rfl, ⟨.dat, ?_⟩, fun _ => ⟨.dat, ?_⟩⟩
          · simp [jEnv, wipeE, pB]
          · simp [jEnv, wipeE]
      have g := gNe_nil (xs := (keysK kr).filter pB) fun x hx => N.nm x (g2 x (List.mem_filter.mp hx).1)
      have g0 : gNe (.list []) (.list []) = some (.dat, .bool false) := gNe_nil (xs := []) (by simp)
      by_cases c : (keysK kr).filter pB = []
      · left
        refine ⟨_, jEnv (.tuple [.str "join", .str a, .str b, .tuple (fs.map .str)]) kv kp kq (.dat (.str s)) .un, rfl, ?_, ⟨_, rfl⟩, ?_⟩
        · show sIf _ _ _ (jEnv (.tuple [.str "join", .str a, .str b, .tuple (fs.map .str)]) kv kp kq (.dat (.str s)) .un) = _
          rw [c, List.map_nil] at l
          simp [l, g0]
        · intro s' hs' r' x hr hx
          rcases List.mem_append.mp hs' with z | z
          · exact hdn s' z r' x hr hx
          · rw [List.mem_singleton.mp z, e3] at hr
            cases hr
            have hk : x ∈ keysK kr := lookup_isSome.mp (by rw [(g3 x).isSome]; exact hx)
            have := List.filter_eq_nil_iff.mp c x hk
            simpa [pB] using this
      · right
        refine ⟨_, rfl, ?_, ?_⟩
        · show sIf _ _ _ (jEnv (.tuple [.str "join", .str a, .str b, .tuple (fs.map .str)]) kv kp kq (.dat (.str s)) .un) = _
          simp [l, g, c]
        · obtain ⟨x, hx⟩ := List.exists_mem_of_ne_nil _ c
          obtain ⟨h5, h6⟩ := List.mem_filter.mp hx
          exact ⟨rr, x, e3, row_names g3 h5, by simpa [pB] using h6⟩
  rcases l with ⟨Γ', h4, ⟨sv', rfl⟩, h5⟩ | ⟨s, _, h4, r, x, h5, h6, h7⟩
  · refine .inl ⟨sv', h4, fun s r x hr hx => h5 s ?_ r x hr hx⟩
    exact lookup_isSome.mp (by rw [(q3 s).isSome, hr]; rfl)
  · exact .inr ⟨h4, fun z => h7 (z s r x h5 h6)⟩
open Classical in
end
end Vb
/-! Nq: lists of pairs and of rows; the law's several. -/
namespace Vb
open PySem L2
theorem lcA {α : Type} (enc : α → D) {vs : List Nat} {fi : EvI} {b : Bd} {t e : Ev} {Γ : Env} {xs : List α} {p : α → Bool} {f : α → D} (hi : fi Γ = .ok (xs.map enc)) (hl : xs.length ≤ 1000)
    (h : ∀ s ∈ xs, ∃ Γ1, b (enc s) (wipeE Γ vs) = some Γ1 ∧ (∃ m, t Γ1 = .ok m (.bool (p s))) ∧ (p s = true → ∃ m, (e Γ1).dat = .ok m (f s))) : eLC vs fi b t e Γ = .ok .own (.list ((xs.filter p).map f)) := by
  refine eLC_ok hi (by rw [List.length_map]; exact hl) ?_
  clear hi hl
  induction xs with
  | nil => rfl
  | cons r xs ih =>
    obtain ⟨Γ1, h1, ⟨m, h2⟩, h3⟩ := h r List.mem_cons_self
    have ih := ih fun x hx => h x (List.mem_cons_of_mem _ hx)
    rw [List.map_cons]
    unfold compL
    rw [h1]
    dsimp only
    rw [h2]
    cases c : p r with
    | false =>
      rw [List.filter_cons_of_neg (by rw [c]; simp)]
      exact ih
    | true =>
      obtain ⟨m', h4⟩ := h3 c
      rw [List.filter_cons_of_pos c, List.map_cons]
      dsimp only
      rw [eDat_eq, h4]
      dsimp only
      rw [ih]
/-- what lies: no dicts, not deep -/
def Lay (k : Nat) (d : D) : Prop := d.canLay0 = true ∧ d.depth ≤ k
theorem lay_list {k : Nat} : ∀ {xs : List D}, (∀ x ∈ xs, Lay k x) → PyData.canLayAll0 xs = true ∧ PyData.depthAll xs ≤ k
  | [], _ => by constructor <;> simp [PyData.canLayAll0, PyData.depthAll]
  | x :: xs, h => by
    obtain ⟨a, b⟩ := lay_list (xs := xs) fun y hy => h y (List.mem_cons_of_mem _ hy)
    obtain ⟨c, d⟩ := h x List.mem_cons_self
    constructor
    · unfold PyData.canLayAll0; rw [a, c]; rfl
    · unfold PyData.depthAll; omega
theorem lay_tuple {k : Nat} {xs : List D} (h : ∀ x ∈ xs, Lay k x) : Lay (k + 1) (.tuple xs) := by
  obtain ⟨a, b⟩ := lay_list h
  constructor
  · unfold PyData.canLay0; exact a
  · unfold PyData.depth; omega
theorem lay_str {k : Nat} {s : Str} (h : PyData.strOk s = true) : Lay k (.str s) := by
  constructor
  · unfold PyData.canLay0; exact h
  · unfold PyData.depth; omega
theorem lay_int {k : Nat} (i : Int) : Lay k (.int i) := by
  constructor
  · unfold PyData.canLay0; rfl
  · unfold PyData.depth; omega
theorem lay_none {k : Nat} : Lay k .none := by
  constructor
  · unfold PyData.canLay0; rfl
  · unfold PyData.depth; omega
theorem Lay.mono {k l : Nat} {d : D} (h : Lay k d) (hl : k ≤ l) : Lay l d := ⟨h.1, Nat.le_trans h.2 hl⟩
theorem gNe_lay {xs : List D} (h : ∀ x ∈ xs, Lay 63 x) : gNe (.list xs) (.list []) = some (.dat, .bool (!decide (xs = []))) := by
  obtain ⟨a, b⟩ := lay_list h
  unfold gNe eqOk SeqAt.shaped
  have e1 : (PyData.list xs).canLay0 = true := by unfold PyData.canLay0; exact a
  have e2 : (PyData.list xs).depth ≤ 64 := by unfold PyData.depth; omega
  have e3 : PyData.canLay0 (.list []) = true := by simp [PyData.canLay0, PyData.canLayAll0]
  have e4 : PyData.depth (.list []) ≤ 64 := by simp [PyData.depth, PyData.depthAll]
  rw [e1, e3, decide_eq_true e2, decide_eq_true e4]
  have e5 : PyData.eqv (.list xs) (.list []) = decide (xs = []) := by
    cases xs with
    | nil => simp [PyData.eqv, PyData.eqvAll]
    | cons x xs => simp [PyData.eqv, PyData.eqvAll]
  rw [e5]
  simp
def prD (p : Str × D) : D := .tuple [.str p.1, p.2]
theorem gIx_pr1 (p : Str × D) : gIx (prD p) (.int 1) = some (.dat, p.2) := gIx_t1 _ _ _
section
variable {NS : List Str}
theorem rows_lay {n k : Nat} {rows : List (Str × Str × Vw)} (N : Nms NS) (hn : ∀ r ∈ rows, r.1 ∈ NS) (hp : ∀ r ∈ rows, r.2.1 ∈ NS) (h : ∀ r ∈ rows, Lay k (toD r.2.2)) : ∀ x ∈ rows.map rowD, Lay (k + 1) x := fun x hx => by
  obtain ⟨r, hr, rfl⟩ := List.mem_map.mp hx
  refine lay_tuple fun y hy => ?_
  rcases List.mem_cons.mp hy with rfl | hy
  · exact lay_str (strOk_nm (N.nm _ (hn r hr)))
  · rcases List.mem_cons.mp hy with rfl | hy
    · exact lay_str (strOk_nm (N.nm _ (hp r hr)))
    · rw [List.mem_singleton.mp hy]; exact h r hr
theorem vg_lay (N : Nms NS) {n : Nat} {v : Vw} (h : VG NS n v) : Lay (n + 1) (toD v) := by
  induction h with
  | whole n =>
    unfold toD
    exact lay_tuple fun y hy => by rw [List.mem_singleton.mp hy]; exact lay_str (by decide +kernel)
  | pick n hs =>
    unfold toD
    exact lay_tuple fun y hy => by
      rcases List.mem_cons.mp hy with rfl | hy
      · exact lay_str (by decide +kernel)
      · rw [List.mem_singleton.mp hy]; exact lay_str (strOk_nm (N.nm _ hs))
  | call n ha hb ne =>
    unfold toD
    exact lay_tuple fun y hy => by
      rcases List.mem_cons.mp hy with rfl | hy
      · exact lay_str (by decide +kernel)
      rcases List.mem_cons.mp hy with rfl | hy
      · exact lay_str (strOk_nm (N.nm _ ha))
      · rw [List.mem_singleton.mp hy]; exact lay_str (strOk_nm (N.nm _ hb))
  | sift n hf hk =>
    unfold toD
    exact lay_tuple fun y hy => by
      rcases List.mem_cons.mp hy with rfl | hy
      · exact lay_str (by decide +kernel)
      rcases List.mem_cons.mp hy with rfl | hy
      · exact lay_str (strOk_nm (N.nm _ hf))
      · rw [List.mem_singleton.mp hy]; exact lay_int _
  | join n ha hb ne l1 l2 nd hfs =>
    unfold toD
    exact lay_tuple fun y hy => by
      rcases List.mem_cons.mp hy with rfl | hy
      · exact lay_str (by decide +kernel)
      rcases List.mem_cons.mp hy with rfl | hy
      · exact lay_str (strOk_nm (N.nm _ ha))
      rcases List.mem_cons.mp hy with rfl | hy
      · exact lay_str (strOk_nm (N.nm _ hb))
      · rw [List.mem_singleton.mp hy]
        exact lay_tuple fun z hz => by
          obtain ⟨f, hf, rfl⟩ := List.mem_map.mp hz
          exact lay_str (strOk_nm (N.nm _ (hfs f hf)))
  | beside l1 l2 n1 n2 hn hp hv ih =>
    unfold toD
    rw [rowsD_map]
    refine lay_tuple fun y hy => ?_
    rcases List.mem_cons.mp hy with rfl | hy
    · exact lay_str (by decide +kernel)
    · rw [List.mem_singleton.mp hy]
      exact lay_tuple (rows_lay (n := 0) N hn hp ih)
  | each hv ih =>
    unfold toD
    exact lay_tuple fun y hy => by
      rcases List.mem_cons.mp hy with rfl | hy
      · exact lay_str (by decide +kernel)
      · rw [List.mem_singleton.mp hy]; exact ih
  | thn hv hw ih1 ih2 =>
    unfold toD
    exact lay_tuple fun y hy => by
      rcases List.mem_cons.mp hy with rfl | hy
      · exact lay_str (by decide +kernel)
      rcases List.mem_cons.mp hy with rfl | hy
      · exact ih1
      · rw [List.mem_singleton.mp hy]; exact ih2
end
end Vb
/-! Nt: numbers and names that a script draws. -/
namespace Vb
open PySem L2
theorem gIx_l1 (a b : D) (r : List D) : gIx (.list (a :: b :: r)) (.int 1) = some (.dat, b) := gIx_list (i := 1) rfl
theorem gIx_l2 (a b c : D) (r : List D) : gIx (.list (a :: b :: c :: r)) (.int 2) = some (.dat, c) := gIx_list (i := 2) rfl
theorem gIx_l3 (a b c d : D) (r : List D) : gIx (.list (a :: b :: c :: d :: r)) (.int 3) = some (.dat, d) := gIx_list (i := 3) rfl
def scr (ns : List Int) : D := .list (ns.map .int)
theorem lawCell_ok (ns : List Int) (k : Int) (hk : 0 ≤ k) : ∃ z, F_law_cell_at [scr ns, .int k] = .ok .dat (.int z) := by
  unfold F_law_cell_at
  rw [runS_eq]; unfold b_law_cell_at scr
  rw [show env0 2 [PyData.list (ns.map .int), .int k] = [.dat (.list (ns.map .int)), .dat (.int k)] from rfl]
  by_cases c : k < (ns.length : Int)
  · obtain ⟨n, rfl⟩ := Int.eq_ofNat_of_zero_le hk
    have hn : n < ns.length := by omega
    have g : gIx (.list (ns.map .int)) (.int (n : Int)) = some (.dat, .int ns[n]) := gIx_list (by rw [List.getElem?_map, List.getElem?_eq_getElem hn]; rfl)
    refine ⟨ns[n], ?_⟩
    have c' : decide ((n : Int) < (ns.length : Int)) = true := decide_eq_true c
    simp [g, hn]
  · have c' : decide (k < (ns.length : Int)) = false := decide_eq_false c
    exact ⟨0, by simp [c]⟩
theorem lawMixed_ok (ns : List Int) (k : Int) : ∃ z, F_law_mixed [scr ns, .int k] = .ok .dat (.int z) := by
  have h1 : 0 ≤ 2 + k % 24 := by omega
  obtain ⟨z, hz⟩ := lawCell_ok ns (2 + k % 24) h1
  have t1 : gTimes (.int z) (.int 48271) = some (.dat, .int (z * 48271)) := gTimes_int (.inr (by decide))
  have t2 : gTimes (.int 7919) (.int k) = some (.dat, .int (7919 * k)) := gTimes_int (.inl (by decide))
  unfold F_law_mixed
  rw [runS_eq]; unfold b_law_mixed
  rw [show env0 2 [scr ns, .int k] = [.dat (scr ns), .dat (.int k)] from rfl]
  exact ⟨_, by simp [hz, t1, t2, gMod_pos]; rfl⟩
theorem t37 : ∀ k : Nat, 1 ≤ k → k ≤ 14 → ∃ (s : Str) (v : Int), gTimes (.str "37") (.int k) = some (.dat, .str s) ∧ gInt [.str s] = some (.dat, .int v) ∧ v.natAbs ≤ 100000000000000000000000000000
  | 1, _, _ => ⟨"37", 37, rfl, by kernel_rfl, by decide⟩
  | 2, _, _ => ⟨"3737", 3737, rfl, by kernel_rfl, by decide⟩
  | 3, _, _ => ⟨"373737", 373737, rfl, by kernel_rfl, by decide⟩
  | 4, _, _ => ⟨"37373737", 37373737, rfl, by kernel_rfl, by decide⟩
  | 5, _, _ => ⟨"3737373737", 3737373737, rfl, by kernel_rfl, by decide⟩
  | 6, _, _ => ⟨"373737373737", 373737373737, rfl, by kernel_rfl, by decide⟩
  | 7, _, _ => ⟨"37373737373737", 37373737373737, rfl, by kernel_rfl, by decide⟩
  | 8, _, _ => ⟨"3737373737373737", 3737373737373737, rfl, by kernel_rfl, by decide⟩
  | 9, _, _ => ⟨"373737373737373737", 373737373737373737, rfl, by kernel_rfl, by decide⟩
  | 10, _, _ => ⟨"37373737373737373737", 37373737373737373737, rfl, by kernel_rfl, by decide⟩
  | 11, _, _ => ⟨"3737373737373737373737", 3737373737373737373737, rfl, by kernel_rfl, by decide⟩
  | 12, _, _ => ⟨"373737373737373737373737", 373737373737373737373737, rfl, by kernel_rfl, by decide⟩
  | 13, _, _ => ⟨"37373737373737373737373737", 37373737373737373737373737, rfl, by kernel_rfl, by decide⟩
  | 14, _, _ => ⟨"3737373737373737373737373737", 3737373737373737373737373737, rfl, by kernel_rfl, by decide⟩
  | 0, h, _ => absurd h (by decide)
  | k + 15, _, h => absurd h (by omega)
theorem lawNumber_ok (z : Int) : ∃ i : Int, F_law_number [.int z] = .ok .dat (.int i) ∧ i.natAbs ≤ 100000000000000000000000000000 := by
  unfold F_law_number
  rw [runS_eq]; unfold b_law_number
  rw [show env0 1 [PyData.int z] = [.dat (.int z)] from rfl]
  have p1 : gPow (.int 10) (.int 20) = some (.dat, .int 100000000000000000000) := rfl
  have p2 : gPow (.int 10) (.int 12) = some (.dat, .int 1000000000000) := rfl
  have ng : gNeg (.int 100000000000000000000) = some (.int (-100000000000000000000)) := rfl
  by_cases h1 : z % 5 = 4
  · have e : z / 5 % 4 = 0 ∨ z / 5 % 4 = 1 ∨ z / 5 % 4 = 2 ∨ z / 5 % 4 = 3 := by omega
    have b : 0 ≤ z / 20 % 3 ∧ z / 20 % 3 < 3 := by omega
    rcases e with e | e | e | e
    · exact ⟨100000000000000000000 + z / 20 % 3, by simp [gMod_pos, gDiv_pos, h1, p1, p2, ng, eNeg, e, gIx_l1, gIx_l2, gIx_l3], by omega⟩
    · exact ⟨-100000000000000000000 + z / 20 % 3, by simp [gMod_pos, gDiv_pos, h1, p1, p2, ng, eNeg, e, gIx_l1, gIx_l2, gIx_l3], by omega⟩
    · exact ⟨1000000000000 + z / 20 % 3, by simp [gMod_pos, gDiv_pos, h1, p1, p2, ng, eNeg, e, gIx_l1, gIx_l2, gIx_l3], by omega⟩
    · exact ⟨0 + z / 20 % 3, by simp [gMod_pos, gDiv_pos, h1, p1, p2, ng, eNeg, e, gIx_l1, gIx_l2, gIx_l3], by omega⟩
  · by_cases h2 : z % 5 = 3
    · have t : gTimes (.int (z / 5)) (.int 48271) = some (.dat, .int (z / 5 * 48271)) := gTimes_int (.inr (by decide))
      exact ⟨z / 5 * 48271 % 2000003 - 1000001, by simp [gMod_pos, gDiv_pos, h2, t], by omega⟩
    · by_cases h3 : z % 15 = 2
      · obtain ⟨n, hn⟩ := Int.eq_ofNat_of_zero_le (show 0 ≤ 1 + z / 15 % 14 by omega)
        obtain ⟨s, v, g1, g2, g3⟩ := t37 n (by omega) (by omega)
        rw [← hn] at g1
        have e : z / 210 % 2 = 0 ∨ z / 210 % 2 = 1 := by omega
        have t0 : gTimes (.int (z / 210 % 2)) (.int 2) = some (.dat, .int (z / 210 % 2 * 2)) := gTimes_int (.inr (by decide))
        have t : gTimes (.int v) (.int (1 - z / 210 % 2 * 2)) = some (.dat, .int (v * (1 - z / 210 % 2 * 2))) := gTimes_int (.inr (by omega))
        refine ⟨v * (1 - z / 210 % 2 * 2), by simp [gMod_pos, gDiv_pos, h1, h2, h3, g1, g2, t0, t], ?_⟩
        rcases e with e | e <;> rw [e] <;> omega
      · exact ⟨z / 5 % 9 - 4, by simp [gMod_pos, gDiv_pos, h1, h2, h3], by omega⟩
/-! ### names -/
def ch (x : Nat) : Str := ⟨#[x]⟩
def ltr (i : Int) : Nat := 97 + (i % 26).toNat
theorem gIx_ltr0 : ∀ n : Nat, n < 26 → gIx (.str "abcdefghijklmnopqrstuvwxyz") (.int n) = some (.dat, .str (ch (97 + n)))
  | 0, _ => rfl
  | 1, _ => rfl
  | 2, _ => rfl
  | 3, _ => rfl
  | 4, _ => rfl
  | 5, _ => rfl
  | 6, _ => rfl
  | 7, _ => rfl
  | 8, _ => rfl
  | 9, _ => rfl
  | 10, _ => rfl
  | 11, _ => rfl
  | 12, _ => rfl
  | 13, _ => rfl
  | 14, _ => rfl
  | 15, _ => rfl
  | 16, _ => rfl
  | 17, _ => rfl
  | 18, _ => rfl
  | 19, _ => rfl
  | 20, _ => rfl
  | 21, _ => rfl
  | 22, _ => rfl
  | 23, _ => rfl
  | 24, _ => rfl
  | 25, _ => rfl
  | n + 26, h => absurd h (by omega)
theorem gIx_ltr (i : Int) : gIx (.str "abcdefghijklmnopqrstuvwxyz") (.int (i % 26)) = some (.dat, .str (ch (ltr i))) := by
  obtain ⟨n, hn⟩ := Int.eq_ofNat_of_zero_le (show 0 ≤ i % 26 by omega)
  have := gIx_ltr0 n (by omega)
  rw [hn, this]
  unfold ltr
  rw [hn]; rfl
theorem join_ch : ∀ c : List Nat, Str.join "" (c.map ch) = ⟨c.toArray⟩
  | [] => rfl
  | [x] => rfl
  | x :: y :: r => by
    have ih := join_ch (y :: r)
    show ch x ++ "" ++ Str.join "" ((y :: r).map ch) = _
    rw [ih]
    show Str.mk ((#[x] ++ #[]) ++ (y :: r).toArray) = _
    simp
theorem gJoin_ch (c : List Nat) (hc : c.length ≤ 1000) : gJoin (.str "") (.list (c.map fun x => .str (ch x))) = some (.dat, .str ⟨c.toArray⟩) := by
  have e : (c.map fun x => PyData.str (ch x)) = (c.map ch).map .str := by rw [List.map_map]; rfl
  rw [e]
  unfold gJoin
  dsimp only
  rw [txts_map]
  dsimp only
  have h1 : ∀ c : List Nat, ((c.map ch).map (·.length)).sum = c.length := fun c => by
    induction c with
    | nil => rfl
    | cons x c ih => rw [List.map_cons, List.map_cons, List.sum_cons, ih, List.length_cons]; show 1 + _ = _; omega
  rw [if_pos (by rw [h1, List.length_map]; show c.length + c.length * 0 ≤ _; omega)]
  unfold Txt.join
  rw [StrLaws.glued_eq_join, join_ch]
theorem iRange_ok {f : Ev} {Γ : Env} {m : Md} {n : Nat} (h : f Γ = .ok m (.int n)) (hn : n ≤ 1000000) : iRange f Γ = .ok ((List.range n).map fun i : Nat => .int i) := by
  unfold iRange
  rw [h]
  dsimp only
  rw [if_pos (by omega)]
  simp
theorem sPutL_ok {i : Nat} {fk fe : Ev} {Γ : Env} {v : D} {m m2 : Md} {ds : List D} {j : Nat} (h1 : (fe Γ).dat = .ok m v) (h2 : Γ[i]? = some (.own (.list ds))) (h3 : fk Γ = .ok m2 (.int (j : Int))) (h4 : j < ds.length) :
    sPut i fk fe Γ = .nx (Γ.set i (.own (.list (ds.set j v)))) := by
  unfold sPut
  rw [eDat_eq, h1]
  show (match Γ[i]? with
    | some (.own d) => (fk Γ).toS fun _ k => (match putD d k v with
      | some d' => .nx (Γ.set i (.own d'))
      | none => .stuck)
    | _ => .stuck) = _
  rw [h2]
  show ((fk Γ).toS fun _ k => (match putD (.list ds) k v with
      | some d' => .nx (Γ.set i (.own d'))
      | none => .stuck)) = _
  rw [h3]
  show (match putD (.list ds) (.int (j : Int)) v with
      | some d' => SOut.nx (Γ.set i (.own d'))
      | none => .stuck) = _
  have e : putD (.list ds) (.int (j : Int)) v = some (.list (ds.set j v)) := by
    show (ixN ds.length (j : Int)).map (fun j => PyData.list (ds.set j v)) = _
    have : ixN ds.length (j : Int) = some j := by
      unfold ixN
      simp [h4]
    rw [this]; rfl
  rw [e]
theorem eSl_take {f h : Ev} {Γ : Env} {m m2 : Md} {ds : List D} {n : Nat} (h1 : f Γ = .ok m (.list ds)) (h2 : h Γ = .ok m2 (.int (n : Int))) : eSl f (eC .none) (eI h) Γ = .ok .own (.list (ds.take n)) := by
  unfold eSl
  rw [h1, bind_ok, eC_eq, bind_ok]
  show (eI h Γ).bind (fun _ h => outSl (.list ds) none h) = _
  rw [eI_ok _ _ _ _ h2, bind_ok]
  show Out.ok Md.own (PyData.list (cutG ds none (some (n : Int)))) = _
  unfold cutG
  rw [HT.sIx_none, HT.sIx_nat]
  rw [Nat.sub_zero, List.drop_zero]
  congr 2
  rcases Nat.le_total n ds.length with z | z
  · rw [Nat.min_eq_left z]
  · rw [Nat.min_eq_right z, List.take_length, List.take_of_length_le z]
def cds (q : Int) : List Nat := (List.range 8).map fun j : Nat => ltr (q + 5 * j)
def nmA (z : Int) (k : Nat) : List Nat := ((cds (z / 8)).set 0 (ltr (z / 8 + (k : Int) / 8))).take (1 + k % 8)
def nmBL (z : Int) (k : Nat) : List Nat := ((cds (z / 8)).set (z / 208 % (1 + z % 8)).toNat (ltr (z / 8 + 7 + k))).take (1 + z % 8).toNat
def lname (z : Int) (k : Nat) : Str := if z / 1664 % 3 = 1 then ⟨(nmA z k).toArray⟩ else ⟨(nmBL z k).toArray⟩
theorem signs_ok (z : Int) (k : Int) (sz : Int) : eLC [5] (iRange (eC (.int 8))) (bName 5) eYes (eBin gIx (eVar 2) (eBin gMod (eBin gPlus (eBin gDiv (eVar 0) (eC (.int 8))) (eBin gTimes (eC (.int 5)) (eVar 5))) (eC (.int 26))))
    [.dat (.int z), .dat (.int k), .dat (.str "abcdefghijklmnopqrstuvwxyz"), .dat (.int sz), .un, .un] = .ok .own (.list ((cds (z / 8)).map fun x => .str (ch x))) := by
  have l := lcA (fun j : Nat => PyData.int j) (vs := [5]) (fi := iRange (eC (.int 8))) (b := bName 5) (t := eYes) (e := eBin gIx (eVar 2) (eBin gMod (eBin gPlus (eBin gDiv (eVar 0) (eC (.int 8))) (eBin gTimes (eC (.int 5)) (eVar 5))) (eC (.int 26))))
    (Γ := [.dat (.int z), .dat (.int k), .dat (.str "abcdefghijklmnopqrstuvwxyz"), .dat (.int sz), .un, .un]) (xs := List.range 8) (p := fun _ => true) (f := fun j : Nat => .str (ch (ltr (z / 8 + 5 * j)))) (iRange_ok (m := .dat) (n := 8) rfl (by decide)) (by simp) fun j hj => by
      refine ⟨_, rfl, ⟨.dat, rfl⟩, fun _ => ⟨.dat, ?_⟩⟩
      have t : gTimes (.int 5) (.int (j : Int)) = some (.dat, .int (5 * j)) := gTimes_int (.inl (by decide))
      simp [wipeE, gDiv_pos, gMod_pos, t, gIx_ltr]
  rw [List.filter_eq_self.mpr (fun _ _ => rfl)] at l
  rw [l]
  unfold cds
  rw [List.map_map]; rfl
theorem set_map_ch (c : List Nat) (i x : Nat) : (c.map fun x => PyData.str (ch x)).set i (.str (ch x)) = (c.set i x).map fun x => .str (ch x) := by rw [List.map_set]
theorem lawName_ok (z : Int) (k : Nat) : F_law_name [.int z, .int k] = .ok .dat (.str (lname z k)) := by
  have sg := signs_ok z k (1 + z % 8)
  have lc : (cds (z / 8)).length = 8 := by unfold cds; simp
  have hs : 0 < 1 + z % 8 := by omega
  unfold F_law_name
  rw [runS_eq]; unfold b_law_name
  rw [show env0 6 [PyData.int z, .int k] = [.dat (.int z), .dat (.int k), .un, .un, .un, .un] from rfl]
  by_cases c : z / 1664 % 3 = 1
  · have p := sPutL_ok (i := 4) (fk := eC (.int 0)) (fe := eBin gIx (eVar 2) (eBin gMod (eBin gPlus (eBin gDiv (eVar 0) (eC (.int 8))) (eBin gDiv (eVar 1) (eC (.int 8)))) (eC (.int 26))))
      (Γ := [.dat (.int z), .dat (.int k), .dat (.str "abcdefghijklmnopqrstuvwxyz"), .dat (.int (1 + z % 8)), .own (.list ((cds (z / 8)).map fun x => .str (ch x))), .un]) (v := .str (ch (ltr (z / 8 + (k : Int) / 8)))) (m := .dat) (m2 := .dat) (ds := (cds (z / 8)).map fun x => .str (ch x)) (j := 0)
      (by simp [gDiv_pos, gMod_pos, gIx_ltr]) rfl rfl (by rw [List.length_map, lc]; decide)
    rw [set_map_ch] at p
    have sl := eSl_take (f := eVar 4) (h := eBin gPlus (eC (.int 1)) (eBin gMod (eVar 1) (eC (.int 8)))) (Γ := [.dat (.int z), .dat (.int k), .dat (.str "abcdefghijklmnopqrstuvwxyz"), .dat (.int (1 + z % 8)), .own (.list (((cds (z / 8)).set 0 (ltr (z / 8 + (k : Int) / 8))).map fun x => .str (ch x))), .un])
      (m := .bor) (m2 := .dat) (ds := ((cds (z / 8)).set 0 (ltr (z / 8 + (k : Int) / 8))).map fun x => .str (ch x)) (n := 1 + k % 8) rfl (by simp [gMod_pos])
    rw [← List.map_take] at sl
    have hj := gJoin_ch (nmA z k) (by unfold nmA; rw [List.length_take]; omega)
    unfold lname
    rw [if_pos c]
    unfold nmA at hj ⊢
    simp [gDiv_pos, gMod_pos, sg, c, p, eJoin, sl, hj, -List.map_take, -List.map_set]
  · obtain ⟨j, hj⟩ := Int.eq_ofNat_of_zero_le (show 0 ≤ z / 208 % (1 + z % 8) from Int.emod_nonneg _ (by omega))
    have hj8 : j < 8 := by
      have := Int.emod_lt_of_pos (z / 208) hs
      omega
    obtain ⟨n, hn⟩ := Int.eq_ofNat_of_zero_le (show 0 ≤ 1 + z % 8 by omega)
    have md : gMod (.int (z / 208)) (.int (1 + z % 8)) = some (.dat, .int (z / 208 % (1 + z % 8))) := gMod_pos hs
    have p := sPutL_ok (i := 4) (fk := eBin gMod (eBin gDiv (eVar 0) (eC (.int 208))) (eVar 3)) (fe := eBin gIx (eVar 2) (eBin gMod (eBin gPlus (eBin gPlus (eBin gDiv (eVar 0) (eC (.int 8))) (eC (.int 7))) (eVar 1)) (eC (.int 26))))
      (Γ := [.dat (.int z), .dat (.int k), .dat (.str "abcdefghijklmnopqrstuvwxyz"), .dat (.int (1 + z % 8)), .own (.list ((cds (z / 8)).map fun x => .str (ch x))), .un]) (v := .str (ch (ltr (z / 8 + 7 + k)))) (m := .dat) (m2 := .dat) (ds := (cds (z / 8)).map fun x => .str (ch x)) (j := j)
      (by simp [gDiv_pos, gMod_pos, gIx_ltr]) rfl (by simp [gDiv_pos, md, hj]) (by rw [List.length_map, lc]; exact hj8)
    rw [set_map_ch] at p
    have sl := eSl_take (f := eVar 4) (h := eVar 3) (Γ := [.dat (.int z), .dat (.int k), .dat (.str "abcdefghijklmnopqrstuvwxyz"), .dat (.int (1 + z % 8)), .own (.list (((cds (z / 8)).set j (ltr (z / 8 + 7 + k))).map fun x => .str (ch x))), .un])
      (m := .bor) (m2 := .dat) (ds := ((cds (z / 8)).set j (ltr (z / 8 + 7 + k))).map fun x => .str (ch x)) (n := n) rfl (by simp [hn])
    rw [← List.map_take] at sl
    have hjo := gJoin_ch (nmBL z k) (by unfold nmBL; rw [List.length_take]; omega)
    unfold lname
    rw [if_neg c]
    unfold nmBL at hjo ⊢
    rw [hj, hn] at hjo ⊢
    rw [Int.toNat_natCast, Int.toNat_natCast] at hjo ⊢
    simp [gDiv_pos, gMod_pos, sg, c, p, eJoin, sl, hjo, -List.map_take, -List.map_set]
end Vb
/-! Nu: the names that a script draws are fourteen unlike names. -/
namespace Vb
open PySem L2
theorem letB_26 : ∀ n : Nat, n < 26 → letB (97 + n) = true := by decide +kernel
theorem letB_ltr (i : Int) : letB (ltr i) = true := letB_26 _ (by omega)
theorem ltr_inj {a b : Int} (h : ltr a = ltr b) : a % 26 = b % 26 := by unfold ltr at h; omega
theorem cds_len (q : Int) : (cds q).length = 8 := by unfold cds; simp
theorem cds_let {q : Int} {i x : Nat} {j : Int} (h : x ∈ (cds q).set i (ltr j)) : letB x = true := by
  rcases List.mem_or_eq_of_mem_set h with h | rfl
  · unfold cds at h
    obtain ⟨n, _, rfl⟩ := List.mem_map.mp h
    exact letB_ltr _
  · exact letB_ltr _
theorem nmB_codes {c : List Nat} (h1 : 1 ≤ c.length) (h2 : c.length ≤ 8) (h3 : ∀ x ∈ c, letB x = true) : nmB ⟨c.toArray⟩ = true := by
  unfold nmB
  have l : (Str.mk c.toArray).length = c.length := by show c.toArray.size = _; simp
  rw [l, decide_eq_true h1, decide_eq_true h2]
  simpa using h3
theorem nmA_len (z : Int) (k : Nat) : (nmA z k).length = 1 + k % 8 := by
  unfold nmA
  rw [List.length_take, List.length_set, cds_len]
  omega
theorem nmBL_len (z : Int) (k : Nat) : (nmBL z k).length = (1 + z % 8).toNat := by
  unfold nmBL
  rw [List.length_take, List.length_set, cds_len]
  omega
theorem lname_nm (z : Int) (k : Nat) : nmB (lname z k) = true := by
  unfold lname
  split
  · refine nmB_codes (by rw [nmA_len]; omega) (by rw [nmA_len]; omega) fun x hx => ?_
    unfold nmA at hx
    exact cds_let (List.mem_of_mem_take hx)
  · refine nmB_codes (by rw [nmBL_len]; omega) (by rw [nmBL_len]; omega) fun x hx => ?_
    unfold nmBL at hx
    exact cds_let (List.mem_of_mem_take hx)
theorem nmA_head (z : Int) (k : Nat) : (nmA z k)[0]? = some (ltr (z / 8 + (k : Int) / 8)) := by
  unfold nmA
  rw [List.getElem?_take_of_lt (by omega), List.getElem?_set_self (by rw [cds_len]; decide)]
theorem nmBL_at (z : Int) (k : Nat) : (nmBL z k)[(z / 208 % (1 + z % 8)).toNat]? = some (ltr (z / 8 + 7 + k)) := by
  have h1 := Int.emod_lt_of_pos (z / 208) (show 0 < 1 + z % 8 by omega)
  have h2 := Int.emod_nonneg (z / 208) (show 1 + z % 8 ≠ 0 by omega)
  unfold nmBL
  rw [List.getElem?_take_of_lt (by omega), List.getElem?_set_self (by rw [cds_len]; omega)]
theorem str_codes {c d : List Nat} (h : (Str.mk c.toArray) = Str.mk d.toArray) : c = d := by
  injection h with h
  simpa using h
theorem lname_inj {z : Int} {k k' : Nat} (h1 : k < 14) (h2 : k' < 14) (h : lname z k = lname z k') : k = k' := by
  unfold lname at h
  split at h
  · have e := str_codes h
    have l := nmA_len z k
    have a := nmA_head z k
    rw [e, nmA_len] at l
    rw [e, nmA_head] at a
    have := ltr_inj (Option.some.inj a)
    omega
  · have e := str_codes h
    have a := nmBL_at z k
    rw [e, nmBL_at] at a
    have := ltr_inj (Option.some.inj a)
    omega
def lnames (z : Int) : List Str := (List.range 14).map (lname z)
theorem nms_lnames (z : Int) : Nms (lnames z) where
  nd := by
    unfold lnames List.Nodup
    rw [List.pairwise_map]
    exact List.Pairwise.imp_of_mem (fun ha hb hne e => hne (lname_inj (List.mem_range.mp ha) (List.mem_range.mp hb) e)) List.nodup_range
  len := by unfold lnames; simp
  nm := fun s hs => by
    unfold lnames at hs
    obtain ⟨k, _, rfl⟩ := List.mem_map.mp hs
    exact lname_nm z k
theorem lawNames_ok (ns : List Int) : ∃ z, F_law_names [scr ns] = .ok .own (.list ((lnames z).map .str)) := by
  obtain ⟨z, hz⟩ := lawCell_ok ns 0 (by decide)
  refine ⟨z, ?_⟩
  have l := lcA (fun j : Nat => PyData.int j) (vs := [1]) (fi := iRange (eC (.int 14))) (b := bName 1) (t := eYes) (e := eCall 2 F_law_name (aCons (eDat (eCall 2 F_law_cell_at (aCons (eVar 0) (aCons (eC (.int 0)) aNil)))) (aCons (eVar 1) aNil)))
    (Γ := [.dat (scr ns), .un]) (xs := List.range 14) (p := fun _ => true) (f := fun j : Nat => .str (lname z j)) (iRange_ok (m := .dat) (n := 14) rfl (by decide)) (by simp) fun j hj => by
      refine ⟨_, rfl, ⟨.dat, rfl⟩, fun _ => ⟨.dat, ?_⟩⟩
      simp [wipeE, hz, lawName_ok]
  rw [List.filter_eq_self.mpr (fun _ _ => rfl)] at l
  unfold F_law_names
  rw [runS_eq]; unfold b_law_names
  rw [show env0 2 [scr ns] = [.dat (scr ns), .un] from rfl]
  unfold lnames
  rw [List.map_map]
  simp [l]
end Vb
/-! Nv: trees that a script draws. -/
namespace Vb
open PySem L2
/-! loops -/
theorem loop_num {b : Bd} {f : Ss} (I : Nat → Env → Prop) : ∀ (m j : Nat) {Γ : Env}, I j Γ → (∀ i Γ, j ≤ i → i < j + m → I i Γ → ∃ Γ1 Γ2, b (.int (i : Int)) Γ = some Γ1 ∧ f Γ1 = .nx Γ2 ∧ I (i + 1) Γ2) → ∃ Γ', loopS b f ((List.range' j m).map fun i : Nat => .int i) Γ = .nx Γ' ∧ I (j + m) Γ'
  | 0, j, Γ, h, _ => ⟨Γ, rfl, h⟩
  | m + 1, j, Γ, h, st => by
    obtain ⟨Γ1, Γ2, h1, h2, h3⟩ := st j Γ (Nat.le_refl _) (by omega) h
    obtain ⟨Γ', h4, h5⟩ := loop_num I m (j + 1) h3 fun i G l1 l2 => st i G (by omega) (by omega)
    refine ⟨Γ', ?_, by rw [show j + (m + 1) = j + 1 + m by omega]; exact h5⟩
    rw [List.range'_succ, List.map_cons]
    unfold loopS
    rw [h1]
    dsimp only
    rw [h2]
    exact h4
theorem sFor_num {fi : EvI} {b : Bd} {f : Ss} {Γ : Env} {n : Nat} (I : Nat → Env → Prop) (hi : fi Γ = .ok ((List.range n).map fun i : Nat => .int i)) (h0 : I 0 Γ) (st : ∀ i Γ, i < n → I i Γ → ∃ Γ1 Γ2, b (.int (i : Int)) Γ = some Γ1 ∧ f Γ1 = .nx Γ2 ∧ I (i + 1) Γ2) : ∃ Γ', sFor fi b f Γ = .nx Γ' ∧ I n Γ' := by
  obtain ⟨Γ', h1, h2⟩ := loop_num (b := b) (f := f) I n 0 h0 fun i G _ l => st i G (by omega)
  refine ⟨Γ', ?_, by rw [Nat.zero_add] at h2; exact h2⟩
  unfold sFor
  rw [hi]
  rw [← List.range_eq_range'] at h1
  exact h1
theorem sFor_inv {fi : EvI} {b : Bd} {f : Ss} {Γ : Env} {ds : List D} (I : Env → Prop) (hi : fi Γ = .ok ds) (h0 : I Γ) (st : ∀ d Γ, d ∈ ds → I Γ → ∃ Γ1 Γ2, b d Γ = some Γ1 ∧ f Γ1 = .nx Γ2 ∧ I Γ2) : ∃ Γ', sFor fi b f Γ = .nx Γ' ∧ I Γ' := by
  obtain ⟨Γ', h1, h2⟩ := loopS_inv (b := b) (f := f) (fun _ => I) (done := []) h0 fun d _ G => st d G
  exact ⟨Γ', by unfold sFor; rw [hi]; exact h1, h2⟩
theorem mem_numbered : ∀ {ds : List D} {n : Nat} {d : D}, d ∈ numbered n ds → ∃ (i : Nat) (x : D), d = .tuple [.int i, x] ∧ x ∈ ds
  | [], _, _, h => by cases h
  | y :: ds, n, d, h => by
    unfold numbered at h
    rcases List.mem_cons.mp h with rfl | h
    · exact ⟨n, y, rfl, List.mem_cons_self⟩
    · obtain ⟨i, x, h1, h2⟩ := mem_numbered h
      exact ⟨i, x, h1, List.mem_cons_of_mem _ h2⟩
theorem iEnum_ok {f : Ev} {Γ : Env} {m : Md} {ds : List D} (h : (f Γ).dat = .ok m (.list ds)) : iEnum f Γ = .ok (numbered 0 ds) := by
  unfold iEnum
  rw [eDat_eq, h]
/-! displays -/
theorem pNil_ok (Γ : Env) : pNil Γ = .ok (dk []) := rfl
theorem pCons_ok {f g : Ev} {r : EvP} {Γ : Env} {s : Str} {v : D} {kv : List (Str × D)} (h1 : f Γ = .ok .dat (.str s)) (h2 : g Γ = .ok .dat v) (h3 : r Γ = .ok (dk kv)) : pCons f g r Γ = .ok (dk ((s, v) :: kv)) := by
  unfold pCons
  rw [h1]
  dsimp only
  rw [h2]
  dsimp only
  rw [h3]
  rfl
theorem eDisp_ok {ps : EvP} {Γ : Env} {kv : List (Str × D)} (h : ps Γ = .ok (dk kv)) (hl : kv.length ≤ 15) : eDisp ps Γ = .ok .own (.dict (dk (kmerge [] kv))) := by
  unfold eDisp
  rw [h]
  dsimp only
  rw [if_pos (by rw [dk_length]; exact hl)]
  rw [show dmerge [] (dk kv) = dmerge (dk []) (dk kv) from rfl, dmerge_dk]
section
variable {NS : List Str}
/-- some tree, so deep -/
def Tr (NS : List Str) (n : Nat) (d : D) : Prop := ∃ t, Rp NS n d t
theorem Tr.mono {n m : Nat} {d : D} (h : Tr NS n d) (l : n ≤ m) : Tr NS m d := by obtain ⟨t, h⟩ := h; exact ⟨t, h.mono l⟩
theorem tr_int {n : Nat} {i : Int} (h : i.natAbs ≤ 100000000000000000000000000000) : Tr NS (n + 1) (.int i) := ⟨_, rp_int h⟩
/-- rows whose parts are trees -/
structure KvT (NS : List Str) (n : Nat) (kv : List (Str × D)) : Prop where
  nd : (keysK kv).Nodup
  nm : ∀ s ∈ keysK kv, s ∈ NS
  tr : ∀ s d, kv.lookup s = some d → Tr NS n d
theorem KvT.tree {n : Nat} {kv : List (Str × D)} (h : KvT NS n kv) : Tr NS (n + 1) (.dict (dk kv)) := by
  classical
  refine ⟨.node fun s => (kv.lookup s).bind fun d => if z : Tr NS n d then some z.choose else none, rp_dk h.nd h.nm fun s => ?_⟩
  cases e : kv.lookup s with
  | none => trivial
  | some d =>
    have z := h.tr s d e
    rw [Option.bind_some, dif_pos z]
    exact z.choose_spec
theorem KvT.nil {n : Nat} : KvT NS n [] := ⟨by simp [keysK], by simp [keysK], fun s d h => by cases h⟩
theorem KvT.put {n : Nat} {kv : List (Str × D)} {s : Str} {d : D} (h : KvT NS n kv) (hs : s ∈ NS) (hd : Tr NS n d) : KvT NS n (kput kv s d) where
  nd := kput_nodup h.nd
  nm := fun x hx => by
    rcases kput_mem.mp hx with rfl | hx
    · exact hs
    · exact h.nm x hx
  tr := fun x e hx => by
    rw [lookup_kput] at hx
    split at hx
    · cases hx; exact hd
    · exact h.tr x e hx
theorem KvT.drop {n : Nat} {kv : List (Str × D)} {s : Str} (h : KvT NS n kv) : KvT NS n (kdrop kv s) where
  nd := h.nd.sublist kdrop_sub
  nm := fun x hx => h.nm x (kdrop_sub.subset hx)
  tr := fun x e hx => by
    rw [lookup_kdrop] at hx
    split at hx
    · cases hx
    · exact h.tr x e hx
theorem KvT.merge {n : Nat} : ∀ {more kv : List (Str × D)}, KvT NS n kv → (∀ p ∈ more, p.1 ∈ NS ∧ Tr NS n p.2) → KvT NS n (kmerge kv more)
  | [], _, h, _ => h
  | p :: more, kv, h, hm => by
    show KvT NS n (kmerge (kput kv p.1 p.2) more)
    exact KvT.merge (h.put (hm p List.mem_cons_self).1 (hm p List.mem_cons_self).2) fun q hq => hm q (List.mem_cons_of_mem _ hq)
theorem KvT.len (N : Nms NS) {n : Nat} {kv : List (Str × D)} (h : KvT NS n kv) : kv.length ≤ 14 := kv_len N h.nd h.nm
/-! the names by their number -/
def nth (NS : List Str) (j : Int) : Str := NS.getD j.toNat ""
theorem gIx_nth (N : Nms NS) {j : Int} (h1 : 0 ≤ j) (h2 : j < 14) : gIx (.list (NS.map .str)) (.int j) = some (.dat, .str (nth NS j)) := by
  obtain ⟨n, rfl⟩ := Int.eq_ofNat_of_zero_le h1
  have hn : n < NS.length := by rw [N.len]; omega
  refine gIx_list ?_
  rw [List.getElem?_map, List.getElem?_eq_getElem hn]
  unfold nth
  rw [Int.toNat_natCast, List.getD_eq_getElem?_getD, List.getElem?_eq_getElem hn]
  rfl
theorem nth_mem (N : Nms NS) {j : Int} (h1 : 0 ≤ j) (h2 : j < 14) : nth NS j ∈ NS := by
  have hn : j.toNat < NS.length := by rw [N.len]; omega
  unfold nth
  rw [List.getD_eq_getElem?_getD, List.getElem?_eq_getElem hn]
  exact List.getElem_mem hn
theorem nth_inj (N : Nms NS) {i j : Int} (h1 : 0 ≤ i) (h2 : i < 14) (h3 : 0 ≤ j) (h4 : j < 14) (h : nth NS i = nth NS j) : i = j := by
  have hi : i.toNat < NS.length := by rw [N.len]; omega
  have hj : j.toNat < NS.length := by rw [N.len]; omega
  unfold nth at h
  rw [List.getD_eq_getElem?_getD, List.getD_eq_getElem?_getD, List.getElem?_eq_getElem hi, List.getElem?_eq_getElem hj] at h
  have h : NS[i.toNat] = NS[j.toNat] := h
  have pw := List.pairwise_iff_getElem.mp N.nd
  rcases Nat.lt_trichotomy i.toNat j.toNat with z | z | z
  · exact absurd h (pw _ _ hi hj z)
  · omega
  · exact absurd h.symm (pw _ _ hj hi z)
/-! a table -/
def tEnv (ns : List Int) (k : Int) (NS fs : List Str) (kv : List (Str × D)) (a b c d e : SV) : Env := [.dat (scr ns), .dat (.int k), .dat (.list (NS.map .str)), .dat (.list (fs.map .str)), .own (.dict (dk kv)), a, b, c, d, e]
theorem rowLoop (N : Nms NS) (ns : List Int) (k : Int) {fs : List Str} (hf : ∀ f ∈ fs, f ∈ NS) (kv : List (Str × D)) (j : Nat) (c d e : SV) : ∃ kr c' d' e', KvT NS 2 kr ∧
    sFor (iEnum (eVar 3)) (bTup [7, 8]) (sSeq (sAsg 9 (eCall 2 F_law_mixed (aCons (eVar 0) (aCons (eBin gPlus (eBin gPlus (eBin gPlus (eVar 1) (eBin gTimes (eC (.int 10)) (eVar 5))) (eVar 7)) (eC (.int 1))) aNil)))) (sIf (eBin gGt (eBin gMod (eVar 9) (eC (.int 4))) (eC (.int 0))) (sPut 6 (eVar 8) (eCall 1 F_law_number (aCons (eBin gDiv (eVar 9) (eC (.int 4))) aNil))) (sIf (eBin gEq (eBin gMod (eVar 9) (eC (.int 12))) (eC (.int 0))) (sPut 6 (eVar 8) (eDisp (pCons (eBin gIx (eVar 2) (eC (.int 0))) (eBin gMod (eBin gDiv (eVar 9) (eC (.int 12))) (eC (.int 5))) pNil))) sNil)))
      (tEnv ns k NS fs kv (.dat (.int j)) (.own (.dict [])) c d e) = .nx (tEnv ns k NS fs kv (.dat (.int j)) (.own (.dict (dk kr))) c' d' e') := by
  obtain ⟨Γ', h1, kr, c', d', e', rfl, h2⟩ := sFor_inv (fi := iEnum (eVar 3)) (b := bTup [7, 8]) (f := (sSeq (sAsg 9 (eCall 2 F_law_mixed (aCons (eVar 0) (aCons (eBin gPlus (eBin gPlus (eBin gPlus (eVar 1) (eBin gTimes (eC (.int 10)) (eVar 5))) (eVar 7)) (eC (.int 1))) aNil)))) (sIf (eBin gGt (eBin gMod (eVar 9) (eC (.int 4))) (eC (.int 0))) (sPut 6 (eVar 8) (eCall 1 F_law_number (aCons (eBin gDiv (eVar 9) (eC (.int 4))) aNil))) (sIf (eBin gEq (eBin gMod (eVar 9) (eC (.int 12))) (eC (.int 0))) (sPut 6 (eVar 8) (eDisp (pCons (eBin gIx (eVar 2) (eC (.int 0))) (eBin gMod (eBin gDiv (eVar 9) (eC (.int 12))) (eC (.int 5))) pNil))) sNil))))
    (Γ := tEnv ns k NS fs kv (.dat (.int j)) (.own (.dict [])) c d e) (ds := numbered 0 (fs.map .str)) (fun Γ => ∃ kr c' d' e', Γ = tEnv ns k NS fs kv (.dat (.int j)) (.own (.dict (dk kr))) c' d' e' ∧ KvT NS 2 kr) (iEnum_ok (m := .dat) rfl) ⟨[], _, _, _, rfl, KvT.nil⟩ fun x Γ hx ⟨kr, c1, d1, e1, eΓ, hk⟩ => by
      subst eΓ
      obtain ⟨i, y, rfl, hy⟩ := mem_numbered hx
      obtain ⟨f, hfm, rfl⟩ := List.mem_map.mp hy
      have hfN := hf f hfm
      obtain ⟨z, hz⟩ := lawMixed_ok ns (k + 10 * (j : Int) + (i : Int) + 1)
      have t : gTimes (.int 10) (.int (j : Int)) = some (.dat, .int (10 * j)) := gTimes_int (.inl (by decide))
      have hl := hk.len N
      refine ⟨tEnv ns k NS fs kv (.dat (.int j)) (.own (.dict (dk kr))) (.dat (.int i)) (.dat (.str f)) e1, ?_⟩
      have st : ∀ g : Ss, sSeq (sAsg 9 (eCall 2 F_law_mixed (aCons (eVar 0) (aCons (eBin gPlus (eBin gPlus (eBin gPlus (eVar 1) (eBin gTimes (eC (.int 10)) (eVar 5))) (eVar 7)) (eC (.int 1))) aNil)))) g (tEnv ns k NS fs kv (.dat (.int j)) (.own (.dict (dk kr))) (.dat (.int i)) (.dat (.str f)) e1) = g (tEnv ns k NS fs kv (.dat (.int j)) (.own (.dict (dk kr))) (.dat (.int i)) (.dat (.str f)) (.dat (.int z))) := fun g => by
        simp [tEnv, t, hz]
      rw [st]
      by_cases c1 : 0 < z % 4
      · obtain ⟨w, hw, hb⟩ := lawNumber_ok (z / 4)
        refine ⟨tEnv ns k NS fs kv (.dat (.int j)) (.own (.dict (dk (kput kr f (.int w))))) (.dat (.int i)) (.dat (.str f)) (.dat (.int z)), rfl, ?_, _, _, _, _, rfl, hk.put hfN (tr_int hb)⟩
        have p := sPut_ok (i := 6) (fk := eVar 8) (fe := eCall 1 F_law_number (aCons (eBin gDiv (eVar 9) (eC (.int 4))) aNil)) (Γ := tEnv ns k NS fs kv (.dat (.int j)) (.own (.dict (dk kr))) (.dat (.int i)) (.dat (.str f)) (.dat (.int z))) (v := .int w) (m := .dat) (m2 := .dat) (kv := kr) (s := f)
          (by simp [tEnv, gDiv_pos, hw]) rfl rfl (by omega)
        rw [sIf_eq, p]
        simp [tEnv, gMod_pos, c1]
      · by_cases c2 : z % 12 = 0
        · have g0 := gIx_nth N (j := 0) (by decide) (by decide)
          have ds : eDisp (pCons (eBin gIx (eVar 2) (eC (.int 0))) (eBin gMod (eBin gDiv (eVar 9) (eC (.int 12))) (eC (.int 5))) pNil) (tEnv ns k NS fs kv (.dat (.int j)) (.own (.dict (dk kr))) (.dat (.int i)) (.dat (.str f)) (.dat (.int z))) = .ok .own (.dict (dk (kmerge [] [(nth NS 0, .int (z / 12 % 5))]))) :=
            eDisp_ok (kv := [(nth NS 0, .int (z / 12 % 5))]) (pCons_ok (by simp [tEnv, g0]) (by simp [tEnv, gDiv_pos, gMod_pos]) (pNil_ok _)) (by simp)
          refine ⟨tEnv ns k NS fs kv (.dat (.int j)) (.own (.dict (dk (kput kr f (.dict (dk (kmerge [] [(nth NS 0, .int (z / 12 % 5))]))))))) (.dat (.int i)) (.dat (.str f)) (.dat (.int z)), rfl, ?_, _, _, _, _, rfl, hk.put hfN (KvT.tree (n := 1) (KvT.merge KvT.nil fun p hp => ?_))⟩
          · have p := sPut_ok (i := 6) (fk := eVar 8) (fe := eDisp (pCons (eBin gIx (eVar 2) (eC (.int 0))) (eBin gMod (eBin gDiv (eVar 9) (eC (.int 12))) (eC (.int 5))) pNil)) (Γ := tEnv ns k NS fs kv (.dat (.int j)) (.own (.dict (dk kr))) (.dat (.int i)) (.dat (.str f)) (.dat (.int z))) (v := .dict (dk (kmerge [] [(nth NS 0, .int (z / 12 % 5))]))) (m := .dat) (m2 := .dat) (kv := kr) (s := f)
              (by rw [ds]; rfl) rfl rfl (by omega)
            rw [sIf_eq, sIf_eq, p]
            simp [tEnv, gMod_pos, c1, c2]
          · rw [List.mem_singleton.mp hp]
            exact ⟨nth_mem N (by decide) (by decide), tr_int (by omega)⟩
        · refine ⟨tEnv ns k NS fs kv (.dat (.int j)) (.own (.dict (dk kr))) (.dat (.int i)) (.dat (.str f)) (.dat (.int z)), rfl, ?_, _, _, _, _, rfl, hk⟩
          simp [tEnv, gMod_pos, c1, c2]
  exact ⟨kr, c', d', e', h2, h1⟩
theorem lawTable_ok (N : Nms NS) (ns : List Int) (k : Int) {fs : List Str} (hf : ∀ f ∈ fs, f ∈ NS) : ∃ kv, F_law_table [scr ns, .int k, .list (NS.map .str), .list (fs.map .str)] = .ok .own (.dict (dk kv)) ∧ KvT NS 3 kv := by
  obtain ⟨Γ', h1, kv, a, b, c, d, e, rfl, hk⟩ := sFor_num (fi := iRange (eC (.int 4))) (b := bName 5) (f := (sIf (eBin gGt (eBin gMod (eCall 2 F_law_mixed (aCons (eVar 0) (aCons (eBin gPlus (eVar 1) (eBin gTimes (eC (.int 10)) (eVar 5))) aNil))) (eC (.int 3))) (eC (.int 0))) (sSeq (sAsg 6 eNewD) (sSeq (sFor (iEnum (eVar 3)) (bTup [7, 8]) (sSeq (sAsg 9 (eCall 2 F_law_mixed (aCons (eVar 0) (aCons (eBin gPlus (eBin gPlus (eBin gPlus (eVar 1) (eBin gTimes (eC (.int 10)) (eVar 5))) (eVar 7)) (eC (.int 1))) aNil)))) (sIf (eBin gGt (eBin gMod (eVar 9) (eC (.int 4))) (eC (.int 0))) (sPut 6 (eVar 8) (eCall 1 F_law_number (aCons (eBin gDiv (eVar 9) (eC (.int 4))) aNil))) (sIf (eBin gEq (eBin gMod (eVar 9) (eC (.int 12))) (eC (.int 0))) (sPut 6 (eVar 8) (eDisp (pCons (eBin gIx (eVar 2) (eC (.int 0))) (eBin gMod (eBin gDiv (eVar 9) (eC (.int 12))) (eC (.int 5))) pNil))) sNil)))) (sFrz 6 (sPut 4 (eBin gIx (eVar 2) (eBin gPlus (eC (.int 9)) (eVar 5))) (eVar 6))))) sNil))
    (Γ := tEnv ns k NS fs [] .un .un .un .un .un) (n := 4) (fun _ Γ => ∃ kv a b c d e, Γ = tEnv ns k NS fs kv a b c d e ∧ KvT NS 3 kv) (iRange_ok (m := .dat) (n := 4) rfl (by decide)) ⟨[], _, _, _, _, _, rfl, KvT.nil⟩ fun j Γ hj ⟨kv, a, b, c, d, e, eΓ, hk⟩ => by
      subst eΓ
      obtain ⟨z, hz⟩ := lawMixed_ok ns (k + 10 * (j : Int))
      have t : gTimes (.int 10) (.int (j : Int)) = some (.dat, .int (10 * j)) := gTimes_int (.inl (by decide))
      have hl := hk.len N
      refine ⟨tEnv ns k NS fs kv (.dat (.int j)) b c d e, ?_⟩
      by_cases c1 : 0 < z % 3
      · obtain ⟨kr, c', d', e', hr, run⟩ := rowLoop N ns k hf kv j c d e
        have g := gIx_nth N (j := 9 + (j : Int)) (by omega) (by omega)
        have p := sPut_ok (i := 4) (fk := eBin gIx (eVar 2) (eBin gPlus (eC (.int 9)) (eVar 5))) (fe := eVar 6) (Γ := tEnv ns k NS fs kv (.dat (.int j)) (.dat (.dict (dk kr))) c' d' e') (v := .dict (dk kr)) (m := .dat) (m2 := .dat) (kv := kv) (s := nth NS (9 + (j : Int)))
          rfl rfl (by simp [tEnv, g]) (by omega)
        refine ⟨tEnv ns k NS fs (kput kv (nth NS (9 + (j : Int))) (.dict (dk kr))) (.dat (.int j)) (.dat (.dict (dk kr))) c' d' e', rfl, ?_, _, _, _, _, _, _, rfl, hk.put (nth_mem N (by omega) (by omega)) hr.tree⟩
        unfold tEnv at run p ⊢
        simp [hz, t, gMod_pos, c1, run, p]
      · refine ⟨tEnv ns k NS fs kv (.dat (.int j)) b c d e, rfl, ?_, _, _, _, _, _, _, rfl, hk⟩
        unfold tEnv
        simp [hz, t, gMod_pos, c1]
  refine ⟨kv, ?_, hk⟩
  unfold F_law_table
  rw [runS_eq]; unfold b_law_table
  rw [show env0 10 [scr ns, .int k, .list (NS.map .str), .list (fs.map .str)] = [.dat (scr ns), .dat (.int k), .dat (.list (NS.map .str)), .dat (.list (fs.map .str)), .un, .un, .un, .un, .un, .un] from rfl]
  unfold tEnv at h1
  rw [dk_nil] at h1
  simp [h1]
end
end Vb
/-! Nw: the house. -/
namespace Vb
open PySem L2
theorem cutG_map {α β : Type} (f : α → β) (xs : List α) (a b : Option Int) : cutG (xs.map f) a b = (cutG xs a b).map f := by
  unfold cutG
  rw [List.length_map, List.map_take, List.map_drop]
theorem cutG_mem {α : Type} {xs : List α} {a b : Option Int} {x : α} (h : x ∈ cutG xs a b) : x ∈ xs := by
  unfold cutG at h
  exact List.mem_of_mem_drop (List.mem_of_mem_take h)
theorem eSl_list {f lo hi : Ev} {Γ : Env} {m m2 m3 : Md} {ds : List D} {a b : Int} (h1 : f Γ = .ok m (.list ds)) (h2 : lo Γ = .ok m2 (.int a)) (h3 : hi Γ = .ok m3 (.int b)) : eSl f (eI lo) (eI hi) Γ = .ok .own (.list (cutG ds (some a) (some b))) := by
  unfold eSl
  rw [h1, bind_ok, eI_ok _ _ _ _ h2, bind_ok]
  show (eI hi Γ).bind (fun _ h => outSl (.list ds) (some a) h) = _
  rw [eI_ok _ _ _ _ h3, bind_ok]
  rfl
theorem sPop_ok {i : Nat} {fk : Ev} {Γ : Env} {m : Md} {kv : List (Str × D)} {s : Str} (h1 : Γ[i]? = some (.own (.dict (dk kv)))) (h2 : fk Γ = .ok m (.str s)) (h3 : (kv.lookup s).isSome) : sPop i fk Γ = .nx (Γ.set i (.own (.dict (dk (kdrop kv s))))) := by
  unfold sPop
  rw [h1]
  dsimp only
  rw [h2, toS_ok]
  rw [if_pos ⟨rfl, by rw [dget_dk]; exact h3⟩, ddrop_dk]
theorem eGet2_dk {f k z : Ev} {Γ : Env} {m m2 m3 : Md} {kv : List (Str × D)} {s : Str} {w : D} (h1 : f Γ = .ok m (.dict (dk kv))) (h2 : k Γ = .ok m2 (.str s)) (h3 : (z Γ).dat = .ok m3 w) : eGet2 f k z Γ = .ok .dat ((kv.lookup s).getD w) := by
  unfold eGet2
  rw [h1, bind_ok]
  dsimp only
  rw [if_pos (okK_dk kv), h2, bind_ok, if_pos (show isKey (.str s) = true from rfl), eDat_eq, h3, bind_ok, dget_dk]
section
variable {NS : List Str}
def hEnv (ns : List Int) (NS : List Str) (kv : List (Str × D)) (x : SV) : Env := [.dat (scr ns), .dat (.list (NS.map .str)), .own (.dict (dk kv)), x]
theorem kput_len (kv : List (Str × D)) (s : Str) (d : D) : (kput kv s d).length ≤ kv.length + 1 := by
  unfold kput
  split
  · rw [List.length_map]; omega
  · rw [List.length_append]; exact Nat.le_refl _
/-- found[part] = f row, row by row -/
def putRows (f : (Str × Str × Vw) → D) (acc : List (Str × D)) (rows : List (Str × Str × Vw)) : List (Str × D) := rows.foldl (fun acc r => kput acc r.2.1 (f r)) acc
theorem popLoop (N : Nms NS) (ns : List Int) {kv : List (Str × D)} (hk : KvT NS 5 kv) (hs : ∀ i : Nat, i < 5 → (kv.lookup (nth NS i)).isSome) : ∃ kv' x, KvT NS 5 kv' ∧ kv'.length ≤ kv.length ∧
    sFor (iRange (eC (.int 5))) (bName 3) (sIf (eBin gEq (eBin gMod (eCall 2 F_law_mixed (aCons (eVar 0) (aCons (eBin gPlus (eC (.int 200)) (eVar 3)) aNil))) (eC (.int 9))) (eC (.int 0))) (sPop 2 (eBin gIx (eVar 1) (eVar 3))) sNil) (hEnv ns NS kv .un) = .nx (hEnv ns NS kv' x) := by
  obtain ⟨Γ', h1, kv', x, rfl, hk', hl', _⟩ := sFor_num (fi := iRange (eC (.int 5))) (b := bName 3) (f := sIf (eBin gEq (eBin gMod (eCall 2 F_law_mixed (aCons (eVar 0) (aCons (eBin gPlus (eC (.int 200)) (eVar 3)) aNil))) (eC (.int 9))) (eC (.int 0))) (sPop 2 (eBin gIx (eVar 1) (eVar 3))) sNil) (Γ := hEnv ns NS kv .un) (n := 5)
    (fun j Γ => ∃ kv2 x, Γ = hEnv ns NS kv2 x ∧ KvT NS 5 kv2 ∧ kv2.length ≤ kv.length ∧ ∀ i : Nat, j ≤ i → i < 5 → (kv2.lookup (nth NS i)).isSome) (iRange_ok (m := .dat) (n := 5) rfl (by decide)) ⟨kv, _, rfl, hk, Nat.le_refl _, fun i _ h => hs i h⟩ fun j Γ hj ⟨kv, x, eΓ, hk, hl0, hs⟩ => by
      subst eΓ
      obtain ⟨z, hz⟩ := lawMixed_ok ns (200 + (j : Int))
      refine ⟨hEnv ns NS kv (.dat (.int j)), ?_⟩
      by_cases c : z % 9 = 0
      · have g := gIx_nth N (j := (j : Int)) (by omega) (by omega)
        have p := sPop_ok (i := 2) (fk := eBin gIx (eVar 1) (eVar 3)) (Γ := hEnv ns NS kv (.dat (.int j))) (m := .dat) (kv := kv) (s := nth NS j) rfl (by simp [hEnv, g]) (hs j (Nat.le_refl _) hj)
        refine ⟨hEnv ns NS (kdrop kv (nth NS j)) (.dat (.int j)), rfl, ?_, _, _, rfl, hk.drop, Nat.le_trans (by have := (kdrop_sub (kv := kv) (s := nth NS j)).length_le; simpa [keysK_length] using this) hl0, fun i h1 h2 => ?_⟩
        · unfold hEnv at p ⊢
          rw [sIf_eq, p]
          simp [hz, gMod_pos, c]
        · rw [lookup_kdrop, if_neg fun e => by
            have := nth_inj N (i := (i : Int)) (j := (j : Int)) (by omega) (by omega) (by omega) (by omega) e
            omega]
          exact hs i (by omega) h2
      · refine ⟨hEnv ns NS kv (.dat (.int j)), rfl, ?_, _, _, rfl, hk, hl0, fun i h1 h2 => hs i (by omega) h2⟩
        unfold hEnv
        simp [hz, gMod_pos, c]
  exact ⟨kv', x, hk', hl', h1⟩
/-- a law's house, or one of its parts -/
def TrS (NS : List Str) (d : D) : Prop := Tr NS 5 d ∨ ∃ kv, d = .dict (dk kv) ∧ KvT NS 5 kv ∧ kv.length ≤ 5
theorem lawHouse_ok (N : Nms NS) (ns : List Int) : ∃ m d, F_law_house [scr ns, .list (NS.map .str)] = .ok m d ∧ m ≠ .bor ∧ TrS NS d := by
  obtain ⟨z1, hz1⟩ := lawMixed_ok ns 1
  obtain ⟨w1, hw1, hb1⟩ := lawNumber_ok z1
  obtain ⟨z2, hz2⟩ := lawMixed_ok ns 2
  obtain ⟨w2, hw2, hb2⟩ := lawNumber_ok z2
  obtain ⟨ka, ha, kta⟩ := lawTable_ok N ns 20 (fs := cutG NS (some 5) (some 7)) fun f hf => cutG_mem hf
  obtain ⟨kb, hb, ktb⟩ := lawTable_ok N ns 70 (fs := cutG NS (some 7) (some 9)) fun f hf => cutG_mem hf
  obtain ⟨kc, hc, ktc⟩ := lawTable_ok N ns 120 (fs := cutG NS (some 5) (some 9)) fun f hf => cutG_mem hf
  have g := fun (j : Int) (h1 : 0 ≤ j) (h2 : j < 14) => gIx_nth N h1 h2
  have g0 := g 0 (by decide) (by decide)
  have g1 := g 1 (by decide) (by decide)
  have g2 := g 2 (by decide) (by decide)
  have g3 := g 3 (by decide) (by decide)
  have g4 := g 4 (by decide) (by decide)
  have g5 := g 5 (by decide) (by decide)
  have g6 := g 6 (by decide) (by decide)
  have mm := fun (j : Int) (h1 : 0 ≤ j) (h2 : j < 14) => nth_mem N h1 h2
  -- the parts
  let k1 : List (Str × D) := kmerge [] [(nth NS 0, .int w1)]
  let kin : List (Str × D) := kmerge [] [(nth NS 0, .int 3)]
  let kp : List (Str × D) := kmerge [] [(nth NS 5, .int w2), (nth NS 6, .dict (dk kin))]
  let kq : List (Str × D) := kmerge [] [(nth NS 2, .dict (dk kc)), (nth NS 0, .int 1)]
  let k2 := kput k1 (nth NS 1) (.dict (dk kp))
  let k3 := kput k2 (nth NS 2) (.dict (dk ka))
  let k4 := kput k3 (nth NS 3) (.dict (dk kb))
  let k5 := kput k4 (nth NS 4) (.dict (dk kq))
  have t1 : KvT NS 5 k1 := KvT.merge KvT.nil fun p hp => by
    rw [List.mem_singleton.mp hp]; exact ⟨mm 0 (by decide) (by decide), tr_int hb1⟩
  have tin : KvT NS 1 kin := KvT.merge KvT.nil fun p hp => by
    rw [List.mem_singleton.mp hp]; exact ⟨mm 0 (by decide) (by decide), tr_int (by decide)⟩
  have tp : KvT NS 4 kp := KvT.merge KvT.nil fun p hp => by
    rcases List.mem_cons.mp hp with rfl | hp
    · exact ⟨mm 5 (by decide) (by decide), tr_int hb2⟩
    · rw [List.mem_singleton.mp hp]; exact ⟨mm 6 (by decide) (by decide), tin.tree.mono (by decide)⟩
  have tq : KvT NS 4 kq := KvT.merge KvT.nil fun p hp => by
    rcases List.mem_cons.mp hp with rfl | hp
    · exact ⟨mm 2 (by decide) (by decide), ktc.tree⟩
    · rw [List.mem_singleton.mp hp]; exact ⟨mm 0 (by decide) (by decide), tr_int (by decide)⟩
  have t2 : KvT NS 5 k2 := t1.put (mm 1 (by decide) (by decide)) tp.tree
  have t3 : KvT NS 5 k3 := t2.put (mm 2 (by decide) (by decide)) (kta.tree.mono (by decide))
  have t4 : KvT NS 5 k4 := t3.put (mm 3 (by decide) (by decide)) (ktb.tree.mono (by decide))
  have t5 : KvT NS 5 k5 := t4.put (mm 4 (by decide) (by decide)) tq.tree
  have l1 := t1.len N
  have l2 := t2.len N
  have l3 := t3.len N
  have l4 := t4.len N
  have has : ∀ i : Nat, i < 5 → (k5.lookup (nth NS i)).isSome := fun i hi => by
    rw [lookup_isSome]
    rcases (show i = 0 ∨ i = 1 ∨ i = 2 ∨ i = 3 ∨ i = 4 by omega) with rfl | rfl | rfl | rfl | rfl
    · refine kput_mem.mpr (.inr (kput_mem.mpr (.inr (kput_mem.mpr (.inr (kput_mem.mpr (.inr ?_)))))))
      exact (kmerge_mem _ _).mpr (.inl List.mem_cons_self)
    · exact kput_mem.mpr (.inr (kput_mem.mpr (.inr (kput_mem.mpr (.inr (kput_mem.mpr (.inl rfl)))))))
    · exact kput_mem.mpr (.inr (kput_mem.mpr (.inr (kput_mem.mpr (.inl rfl)))))
    · exact kput_mem.mpr (.inr (kput_mem.mpr (.inl rfl)))
    · exact kput_mem.mpr (.inl rfl)
  obtain ⟨kv, x, hk, hlv, run⟩ := popLoop N ns t5 has
  have hl5 : kv.length ≤ 5 := by
    have a2 := kput_len k1 (nth NS 1) (.dict (dk kp))
    have a3 := kput_len k2 (nth NS 2) (.dict (dk ka))
    have a4 := kput_len k3 (nth NS 3) (.dict (dk kb))
    have a5 := kput_len k4 (nth NS 4) (.dict (dk kq))
    have a1 : k1.length = 1 := rfl
    have b2 : k2.length ≤ k1.length + 1 := a2
    have b3 : k3.length ≤ k2.length + 1 := a3
    have b4 : k4.length ≤ k3.length + 1 := a4
    have b5 : k5.length ≤ k4.length + 1 := a5
    omega
  have e1 : eDisp (pCons (eBin gIx (eVar 1) (eC (.int 0))) (eDat (eCall 1 F_law_number (aCons (eDat (eCall 2 F_law_mixed (aCons (eVar 0) (aCons (eC (.int 1)) aNil)))) aNil))) pNil) [.dat (scr ns), .dat (.list (NS.map .str)), .un, .un] = .ok .own (.dict (dk k1)) :=
    eDisp_ok (kv := [(nth NS 0, .int w1)]) (pCons_ok (by simp [g0]) (by simp [hz1, hw1]) (pNil_ok _)) (by simp)
  have p2 := sPut_ok (i := 2) (fk := eBin gIx (eVar 1) (eC (.int 1))) (fe := eDisp (pCons (eBin gIx (eVar 1) (eC (.int 5))) (eDat (eCall 1 F_law_number (aCons (eDat (eCall 2 F_law_mixed (aCons (eVar 0) (aCons (eC (.int 2)) aNil)))) aNil))) (pCons (eBin gIx (eVar 1) (eC (.int 6))) (eDat (eDisp (pCons (eBin gIx (eVar 1) (eC (.int 0))) (eC (.int 3)) pNil))) pNil)))
    (Γ := hEnv ns NS k1 .un) (v := .dict (dk kp)) (m := .dat) (m2 := .dat) (kv := k1) (s := nth NS 1) (by
      have e2 : eDisp (pCons (eBin gIx (eVar 1) (eC (.int 0))) (eC (.int 3)) pNil) (hEnv ns NS k1 .un) = .ok .own (.dict (dk kin)) := eDisp_ok (kv := [(nth NS 0, .int 3)]) (pCons_ok (by simp [hEnv, g0]) rfl (pNil_ok _)) (by simp)
      have e3 := eDisp_ok (kv := [(nth NS 5, .int w2), (nth NS 6, .dict (dk kin))]) (pCons_ok (f := eBin gIx (eVar 1) (eC (.int 5))) (g := eDat (eCall 1 F_law_number (aCons (eDat (eCall 2 F_law_mixed (aCons (eVar 0) (aCons (eC (.int 2)) aNil)))) aNil))) (Γ := hEnv ns NS k1 .un)
        (by simp [hEnv, g5]) (by simp [hEnv, hz2, hw2]) (pCons_ok (f := eBin gIx (eVar 1) (eC (.int 6))) (g := eDat (eDisp (pCons (eBin gIx (eVar 1) (eC (.int 0))) (eC (.int 3)) pNil))) (by simp [hEnv, g6]) (by rw [eDat_eq, e2]; rfl) (pNil_ok _))) (by simp)
      rw [e3]; rfl) rfl (by simp [hEnv, g1]) (by omega)
  have sl : ∀ (kv : List (Str × D)) (a b : Int), eSl (eVar 1) (eI (eC (.int a))) (eI (eC (.int b))) (hEnv ns NS kv .un) = .ok .own (.list ((cutG NS (some a) (some b)).map .str)) := fun kv a b => by
    rw [eSl_list (f := eVar 1) (m := .dat) (ds := NS.map .str) (a := a) (b := b) rfl rfl rfl, cutG_map]
  have p3 := sPut_ok (i := 2) (fk := eBin gIx (eVar 1) (eC (.int 2))) (fe := eCall 4 F_law_table (aCons (eVar 0) (aCons (eC (.int 20)) (aCons (eVar 1) (aCons (eDat (eSl (eVar 1) (eI (eC (.int 5))) (eI (eC (.int 7))))) aNil)))))
    (Γ := hEnv ns NS k2 .un) (v := .dict (dk ka)) (m := .dat) (m2 := .dat) (kv := k2) (s := nth NS 2) (by
      have z := sl k2 5 7
      unfold hEnv at z ⊢
      simp [z, ha, -List.map_take]) rfl (by simp [hEnv, g2]) (by omega)
  have p4 := sPut_ok (i := 2) (fk := eBin gIx (eVar 1) (eC (.int 3))) (fe := eCall 4 F_law_table (aCons (eVar 0) (aCons (eC (.int 70)) (aCons (eVar 1) (aCons (eDat (eSl (eVar 1) (eI (eC (.int 7))) (eI (eC (.int 9))))) aNil)))))
    (Γ := hEnv ns NS k3 .un) (v := .dict (dk kb)) (m := .dat) (m2 := .dat) (kv := k3) (s := nth NS 3) (by
      have z := sl k3 7 9
      unfold hEnv at z ⊢
      simp [z, hb]) rfl (by simp [hEnv, g3]) (by omega)
  have p5 := sPut_ok (i := 2) (fk := eBin gIx (eVar 1) (eC (.int 4))) (fe := eDisp (pCons (eBin gIx (eVar 1) (eC (.int 2))) (eDat (eCall 4 F_law_table (aCons (eVar 0) (aCons (eC (.int 120)) (aCons (eVar 1) (aCons (eDat (eSl (eVar 1) (eI (eC (.int 5))) (eI (eC (.int 9))))) aNil)))))) (pCons (eBin gIx (eVar 1) (eC (.int 0))) (eC (.int 1)) pNil)))
    (Γ := hEnv ns NS k4 .un) (v := .dict (dk kq)) (m := .dat) (m2 := .dat) (kv := k4) (s := nth NS 4) (by
      have z := sl k4 5 9
      have e3 := eDisp_ok (kv := [(nth NS 2, .dict (dk kc)), (nth NS 0, .int 1)]) (pCons_ok (f := eBin gIx (eVar 1) (eC (.int 2))) (g := eDat (eCall 4 F_law_table (aCons (eVar 0) (aCons (eC (.int 120)) (aCons (eVar 1) (aCons (eDat (eSl (eVar 1) (eI (eC (.int 5))) (eI (eC (.int 9))))) aNil)))))) (Γ := hEnv ns NS k4 .un)
        (by simp [hEnv, g2]) (by unfold hEnv at z ⊢; simp [z, hc]) (pCons_ok (f := eBin gIx (eVar 1) (eC (.int 0))) (g := eC (.int 1)) (by simp [hEnv, g0]) rfl (pNil_ok _))) (by simp)
      rw [e3]; rfl) rfl (by simp [hEnv, g4]) (by omega)
  obtain ⟨zc, hzc⟩ := lawCell_ok ns 1 (by decide)
  have q2 := eGet2_dk (f := eVar 2) (k := eBin gIx (eVar 1) (eC (.int 2))) (z := eNewD) (Γ := [.dat (scr ns), .dat (.list (NS.map .str)), .dat (.dict (dk kv)), x]) (m := .dat) (m2 := .dat) (m3 := .dat) (kv := kv) (s := nth NS 2) (w := .dict []) rfl (by simp [g2]) rfl
  have q4 := eGet2_dk (f := eVar 2) (k := eBin gIx (eVar 1) (eC (.int 4))) (z := eC (.int 5)) (Γ := [.dat (scr ns), .dat (.list (NS.map .str)), .dat (.dict (dk kv)), x]) (m := .dat) (m2 := .dat) (m3 := .dat) (kv := kv) (s := nth NS 4) (w := .int 5) rfl (by simp [g4]) rfl
  have r0 : TrS NS (.dict (dk kv)) := .inr ⟨kv, rfl, hk, hl5⟩
  have r1 : TrS NS ((kv.lookup (nth NS 2)).getD (.dict [])) := by
    cases e : kv.lookup (nth NS 2) with
    | none => exact .inl (KvT.nil (n := 4)).tree
    | some d => exact .inl (hk.tr _ _ e)
  have r2 : TrS NS ((kv.lookup (nth NS 4)).getD (.int 5)) := by
    cases e : kv.lookup (nth NS 4) with
    | none => exact .inl (tr_int (by decide))
    | some d => exact .inl (hk.tr _ _ e)
  have start : F_law_house [scr ns, .list (NS.map .str)] = finO (b_law_house [.dat (scr ns), .dat (.list (NS.map .str)), .un, .un]) := by unfold F_law_house; rw [runS_eq]; rfl
  rw [start]
  unfold b_law_house
  unfold hEnv at run p2 p3 p4 p5
  rcases (show zc % 5 % 3 = 0 ∨ zc % 5 % 3 = 1 ∨ zc % 5 % 3 = 2 by omega) with c | c | c
  · exact ⟨.dat, _, by simp [e1, p2, p3, p4, p5, run, q2, q4, hzc, gMod_pos, c, k2, k3, k4, k5] <;> rfl, by simp, r0⟩
  · exact ⟨.dat, _, by simp [e1, p2, p3, p4, p5, run, q2, q4, hzc, gMod_pos, c, gIx_l1, k2, k3, k4, k5] <;> rfl, by simp, r1⟩
  · exact ⟨.dat, _, by simp [e1, p2, p3, p4, p5, run, q2, q4, hzc, gMod_pos, c, gIx_l2, k2, k3, k4, k5] <;> rfl, by simp, r2⟩
end
end Vb
/-! Ka: names, trees, tables: the program's look and the law's, at any data. -/
namespace Vb
open PySem L2
def nmD : D → Bool
  | .str s => nmB s
  | _ => false
/-- a text that may be looked at -/
def Tx (s : Str) : Prop := s.length ≤ 1000 ∧ PyData.strOk s = true
theorem isName_any {d : D} (h : ∀ s, d = .str s → Tx s) : F_is_name [d] = .ok .dat (.bool (nmD d)) := by
  cases d with
  | str s => exact isName_str (h s rfl).1
  | _ => rfl
theorem gEq_lay {xs : List D} (h : ∀ x ∈ xs, Lay 63 x) : gEq (.list xs) (.list []) = some (.dat, .bool (decide (xs = []))) := by
  have z := gNe_lay h
  unfold gNe at z
  unfold gEq
  split at z
  · rename_i c
    rw [if_pos c]
    have z' : (!PyData.eqv (PyData.list xs) (PyData.list [])) = !decide (xs = []) := by
      injection z with z; injection z with _ z; injection z
    have z2 := congrArg not z'
    rw [Bool.not_not, Bool.not_not] at z2
    rw [z2]
  · cases z
theorem gNotIn_let (c : Nat) : gNotIn (.str ⟨#[c]⟩) (.str "abcdefghijklmnopqrstuvwxyz") = some (.dat, .bool (!letB c)) := rfl
theorem lawIsName_str {s : Str} (h : Tx s) : F_law_is_name [.str s] = .ok .dat (.bool (nmB s)) := by
  have l := lcA (fun c : Nat => PyData.str ⟨#[c]⟩) (vs := [1]) (fi := iVal (eVar 0)) (b := bName 1) (t := eBin gNotIn (eVar 1) (eC (.str "abcdefghijklmnopqrstuvwxyz"))) (e := eVar 1) (Γ := [.dat (.str s), .un]) (xs := s.cps.toList) (p := fun c => !letB c) (f := fun c => PyData.str ⟨#[c]⟩)
    (show iVal (eVar 0) [.dat (.str s), .un] = .ok (signs s) from rfl) h.1 (fun c _ => ⟨_, rfl, ⟨.dat, by simp [wipeE, gNotIn_let]⟩, fun _ => ⟨.dat, rfl⟩⟩)
  have hl : ∀ x ∈ (s.cps.toList.filter fun c => !letB c).map (fun c => PyData.str ⟨#[c]⟩), Lay 63 x := fun x hx => by
    obtain ⟨c, hc, rfl⟩ := List.mem_map.mp hx
    refine lay_str ?_
    have ho := h.2
    unfold PyData.strOk at ho ⊢
    rw [Array.all_eq_true'] at ho
    have := ho c (by simpa using (List.mem_filter.mp hc).1)
    simpa using this
  have g := gEq_lay hl
  have e : decide ((s.cps.toList.filter fun c => !letB c).map (fun c => PyData.str ⟨#[c]⟩) = []) = s.cps.toList.all letB := by
    rw [Bool.eq_iff_iff, decide_eq_true_iff, List.map_eq_nil_iff, List.filter_eq_nil_iff, List.all_eq_true]
    constructor <;> intro h c hc <;> have := h c hc <;> simpa using this
  rw [e] at g
  unfold F_law_is_name
  rw [runS_eq]
  unfold b_law_is_name
  rw [show env0 2 [PyData.str s] = [.dat (.str s), .un] from rfl]
  simp [gLen_str h.1, l, g, -List.map_map]
  unfold nmB
  have e1 : decide ((s.length : Int) < 1) = !decide (1 ≤ s.length) := by rw [Bool.eq_iff_iff]; simp; omega
  have e2 : decide (8 < (s.length : Int)) = !decide (s.length ≤ 8) := by rw [Bool.eq_iff_iff]; simp; omega
  rw [e1, e2]
  cases decide (1 ≤ s.length) <;> cases decide (s.length ≤ 8) <;> simp
theorem lawIsName_any {d : D} (h : ∀ s, d = .str s → Tx s) : F_law_is_name [d] = .ok .dat (.bool (nmD d)) := by
  cases d with
  | str s => exact lawIsName_str (h s rfl)
  | _ => rfl
/-! ### trees -/
def isT : Nat → D → Bool
  | n + 1, .dict ds => ds.all fun p => nmD p.1 && isT n p.2
  | _, .int _ => true
  | _, _ => false
def Wf : Nat → D → Prop
  | n + 1, .dict ds => ds.length ≤ 1000 ∧ ∀ p ∈ ds, (∀ s, p.1 = .str s → Tx s) ∧ (nmD p.1 = true → gIx (.dict ds) p.1 = some (.dat, p.2) ∧ Wf n p.2)
  | 0, .dict _ => False
  | _, _ => True
theorem Wf.up : ∀ {n : Nat} {d : D}, Wf n d → Wf (n + 1) d
  | 0, .dict _, h => h.elim
  | n + 1, .dict ds, h => ⟨h.1, fun p hp => ⟨(h.2 p hp).1, fun c => ⟨((h.2 p hp).2 c).1, Wf.up ((h.2 p hp).2 c).2⟩⟩⟩
  | _, .none, _ => by unfold Wf; trivial
  | _, .bool _, _ => by unfold Wf; trivial
  | _, .int _, _ => by unfold Wf; trivial
  | _, .str _, _ => by unfold Wf; trivial
  | _, .list _, _ => by unfold Wf; trivial
  | _, .tuple _, _ => by unfold Wf; trivial
theorem Wf.mono {n m : Nat} {d : D} (h : Wf n d) (l : n ≤ m) : Wf m d := by
  induction l with
  | refl => exact h
  | step _ ih => exact ih.up
theorem iVal_dict {f : Ev} {Γ : Env} {ds : List (D × D)} (h : f Γ = .ok .dat (.dict ds)) : iVal f Γ = .ok (ds.map (·.1)) := by unfold iVal; rw [eDat_eq, h]; rfl
theorem isTree_wf : ∀ {n m : Nat} {d : D}, Wf n d → n ≤ m → F_is_tree (m + 1) [d] = .ok .dat (.bool (isT n d))
  | n, _, .none, _, _ => by cases n <;> rfl
  | n, _, .bool b, _, _ => by cases n <;> rfl
  | n, _, .int _, _, _ => by cases n <;> rfl
  | n, _, .str _, _, _ => by cases n <;> rfl
  | n, _, .list _, _, _ => by cases n <;> rfl
  | n, _, .tuple _, _, _ => by cases n <;> rfl
  | 0, _, .dict _, h, _ => h.elim
  | n + 1, m, .dict ds, h, hm => by
    obtain ⟨m, rfl⟩ : ∃ k, m = k + 1 := ⟨m - 1, by omega⟩
    unfold F_is_tree
    rw [runS_eq]
    unfold b_is_tree
    rw [show env0 2 [PyData.dict ds] = [.dat (.dict ds), .un] from rfl]
    have l := lcA (fun p : D × D => p.1) (vs := [1]) (fi := iVal (eVar 0)) (b := bName 1) (t := eYes) (e := eAnd (eCall 1 F_is_name (aCons (eVar 1) aNil)) (eCall 1 (F_is_tree (m + 1)) (aCons (eBin gIx (eVar 0) (eVar 1)) aNil))) (Γ := [.dat (.dict ds), .un]) (xs := ds) (p := fun _ => true) (f := fun p => .bool (nmD p.1 && isT n p.2))
      (iVal_dict rfl) h.1 (fun p hp => ⟨_, rfl, ⟨.dat, rfl⟩, fun _ => ⟨.dat, by
        obtain ⟨h1, h2⟩ := h.2 p hp
        cases c : nmD p.1 with
        | false => simp [wipeE, isName_any h1, c]
        | true =>
          obtain ⟨h3, h4⟩ := h2 c
          simp [wipeE, isName_any h1, c, h3, isTree_wf h4 (show n ≤ m by omega)]⟩⟩)
    rw [List.filter_eq_self.mpr (fun _ _ => rfl)] at l
    simp [l, -List.map_map]
    rw [gAll_map (fun p : D × D => nmD p.1 && isT n p.2)]
    rfl
theorem lawIsTree_wf : ∀ {n m : Nat} {d : D}, Wf n d → n ≤ m → F_law_is_tree (m + 1) [d] = .ok .dat (.bool (isT n d))
  | n, _, .none, _, _ => by cases n <;> rfl
  | n, _, .bool b, _, _ => by cases n <;> rfl
  | n, _, .int _, _, _ => by cases n <;> rfl
  | n, _, .str _, _, _ => by cases n <;> rfl
  | n, _, .list _, _, _ => by cases n <;> rfl
  | n, _, .tuple _, _, _ => by cases n <;> rfl
  | 0, _, .dict _, h, _ => h.elim
  | n + 1, m, .dict ds, h, hm => by
    obtain ⟨m, rfl⟩ : ∃ k, m = k + 1 := ⟨m - 1, by omega⟩
    unfold F_law_is_tree
    rw [runS_eq]
    unfold b_law_is_tree
    rw [show env0 2 [PyData.dict ds] = [.dat (.dict ds), .un] from rfl]
    have l := lcA (fun p : D × D => p.1) (vs := [1]) (fi := iVal (eVar 0)) (b := bName 1) (t := eYes) (e := eAnd (eCall 1 F_law_is_name (aCons (eVar 1) aNil)) (eCall 1 (F_law_is_tree (m + 1)) (aCons (eBin gIx (eVar 0) (eVar 1)) aNil))) (Γ := [.dat (.dict ds), .un]) (xs := ds) (p := fun _ => true) (f := fun p => .bool (nmD p.1 && isT n p.2))
      (iVal_dict rfl) h.1 (fun p hp => ⟨_, rfl, ⟨.dat, rfl⟩, fun _ => ⟨.dat, by
        obtain ⟨h1, h2⟩ := h.2 p hp
        cases c : nmD p.1 with
        | false => simp [wipeE, lawIsName_any h1, c]
        | true =>
          obtain ⟨h3, h4⟩ := h2 c
          simp [wipeE, lawIsName_any h1, c, h3, lawIsTree_wf h4 (show n ≤ m by omega)]⟩⟩)
    rw [List.filter_eq_self.mpr (fun _ _ => rfl)] at l
    simp [l, -List.map_map]
    rw [gAll_map (fun p : D × D => nmD p.1 && isT n p.2)]
    rfl
/-! ### tables -/
def allB : D → Bool
  | .dict ds => ds.all fun p => isTyp "dict" p.2
  | _ => false
def isTb (n : Nat) (d : D) : Bool := isT n d && allB d
theorem allDict_ok {n : Nat} {ds : List (D × D)} (h : Wf (n + 1) (.dict ds)) (ht : isT (n + 1) (.dict ds) = true) {i j : Nat} {Γ : Env} (hi : (wipeE Γ [j])[i]? = some (.dat (.dict ds))) (hg : Γ[i]? = some (.dat (.dict ds))) (hne : i ≠ j) (hj : j < Γ.length) :
    eFn gAll (aCons (eLC [j] (iVal (eVar i)) (bName j) eYes (eIsT "dict" (eBin gIx (eVar i) (eVar j)))) aNil) Γ = .ok .dat (.bool (allB (.dict ds))) := by
  have l := lcA (fun p : D × D => p.1) (vs := [j]) (fi := iVal (eVar i)) (b := bName j) (t := eYes) (e := eIsT "dict" (eBin gIx (eVar i) (eVar j))) (Γ := Γ) (xs := ds) (p := fun _ => true) (f := fun p => .bool (isTyp "dict" p.2))
    (iVal_dict (by rw [eVar_eq, hg]; rfl)) h.1 (fun p hp => by
      have hn : nmD p.1 = true := by
        unfold isT at ht
        have := List.all_eq_true.mp ht p hp
        simp only [Bool.and_eq_true] at this
        exact this.1
      obtain ⟨h3, _⟩ := (h.2 p hp).2 hn
      have hl : (wipeE Γ [j]).length = Γ.length := by rw [show wipeE Γ [j] = Γ.set j .un from rfl, List.length_set]
      refine ⟨(wipeE Γ [j]).set j (.dat p.1), rfl, ⟨.dat, rfl⟩, fun _ => ⟨.dat, ?_⟩⟩
      rw [eIsT_eq, eBin_eq, eVar_eq, eVar_eq, List.getElem?_set_ne (Ne.symm hne), hi, List.getElem?_set_self (by rw [hl]; exact hj)]
      simp [h3])
  rw [List.filter_eq_self.mpr (fun _ _ => rfl)] at l
  rw [eFn_eq, aCons_eq, l]
  simp [-List.map_map]
  rw [gAll_map (fun p : D × D => isTyp "dict" p.2)]
  rfl
theorem isTable_wf {n : Nat} {d : D} (h : Wf n d) (hn : n ≤ 185) : F_is_table [d] = .ok .dat (.bool (isTb n d)) := by
  have t := isTree_wf (m := 185) h hn
  cases d with
  | dict ds =>
    cases n with
    | zero => exact h.elim
    | succ n =>
      unfold F_is_table
      rw [runS_eq]
      unfold b_is_table
      rw [show env0 2 [PyData.dict ds] = [.dat (.dict ds), .un] from rfl]
      unfold isTb
      cases c : isT (n + 1) (.dict ds) with
      | false => rw [c] at t; simp [t]
      | true =>
        rw [c] at t
        have a := allDict_ok h c (i := 0) (j := 1) (Γ := [.dat (.dict ds), .un]) rfl rfl (by decide) (by simp)
        rw [sRet_eq, eAnd_eq, eAnd_eq, a]
        simp [t]
  | _ => unfold isTb allB; rw [Bool.and_false]; rfl
end Vb
/-! Kb: how long data is when shown. -/
namespace Vb
open PySem L2
theorem rc39 : ∀ c ∈ lettersS.cps.toList, (Builtin.Str.reprChar 39 c).length = 1 := by decide +kernel
theorem rc34 : ∀ c ∈ lettersS.cps.toList, (Builtin.Str.reprChar 34 c).length = 1 := by decide +kernel
theorem let_lt : ∀ c ∈ lettersS.cps.toList, c < 1114112 := by decide +kernel
theorem letB_mem {c : Nat} (h : letB c = true) : c ∈ lettersS.cps.toList := by unfold letB at h; exact of_decide_eq_true h
theorem rc_let (x : Str) {c : Nat} (h : letB c = true) : (Builtin.Str.reprChar (reprQuote x) c).length = 1 := by
  unfold reprQuote
  split
  · exact rc34 c (letB_mem h)
  · exact rc39 c (letB_mem h)
theorem rc_fold (x : Str) : ∀ (l : List Nat) (n : Nat), (∀ c ∈ l, letB c = true) → l.foldl (fun n c => n + (Builtin.Str.reprChar (reprQuote x) c).length) n = n + l.length
  | [], _, _ => rfl
  | c :: l, n, h => by
    rw [List.foldl_cons, rc_let x (h c List.mem_cons_self), rc_fold x l _ fun c hc => h c (List.mem_cons_of_mem _ hc), List.length_cons]
    omega
theorem rl_let {s : Str} (h : ∀ c ∈ s.cps.toList, letB c = true) : (reprText s).length = s.length + 2 := by
  rw [← reprLen_eq, ← Array.foldl_toList, rc_fold s _ _ h]
  have : s.length = s.cps.toList.length := rfl
  omega
theorem nmB_let {s : Str} (h : nmB s = true) : ∀ c ∈ s.cps.toList, letB c = true := by
  unfold nmB at h
  simp only [Bool.and_eq_true] at h
  exact List.all_eq_true.mp h.2.2
theorem tx_let {s : Str} (hl : s.length ≤ 1000) (h : ∀ c ∈ s.cps.toList, letB c = true) : Tx s := by
  refine ⟨hl, ?_⟩
  unfold PyData.strOk
  rw [Array.all_eq_true']
  intro c hc
  exact decide_eq_true (let_lt c (letB_mem (h c (by simpa using hc))))
theorem nmB_tx {s : Str} (h : nmB s = true) : Tx s := tx_let (by have := nmB_len h; omega) (nmB_let h)
theorem rl_nm {s : Str} (h : nmB s = true) : (reprText s).length ≤ 10 := by
  rw [rl_let (nmB_let h)]
  have := nmB_len h; omega
def bnd : Nat → Nat
  | 0 => 32
  | n + 1 => 14 * (14 + bnd n) + 3
theorem bnd_up (n : Nat) : bnd n ≤ bnd (n + 1) := by
  show bnd n ≤ 14 * (14 + bnd n) + 3
  omega
/-- what may be looked at, told, so long at most, so deep -/
structure GdB (b n : Nat) (d : D) : Prop where
  wf : Wf (n + 3) d
  sh : d.showable = true
  dp : d.depth ≤ n + 3
  ln : d.shown.length ≤ b
  st : ∀ s, d = .str s → Tx s
abbrev Gd (n : Nat) (d : D) : Prop := GdB (bnd n) n d
theorem Gd.up {n : Nat} {d : D} (h : Gd n d) : Gd (n + 1) d := ⟨Wf.up h.wf, h.sh, Nat.le_succ_of_le h.dp, Nat.le_trans h.ln (bnd_up n), h.st⟩
theorem Gd.mono {n m : Nat} {d : D} (h : Gd n d) (l : n ≤ m) : Gd m d := by
  induction l with
  | refl => exact h
  | step _ ih => exact ih.up
theorem dk_mem {kv : List (Str × D)} {p : D × D} (h : p ∈ dk kv) : ∃ s d, p = (.str s, d) ∧ (s, d) ∈ kv := by
  unfold dk at h
  obtain ⟨q, hq, rfl⟩ := List.mem_map.mp h
  exact ⟨q.1, q.2, rfl, hq⟩
theorem kv_facts {b n : Nat} : ∀ {kv : List (Str × D)}, (∀ p ∈ kv, nmB p.1 = true) → (∀ p ∈ kv, GdB b n p.2) → PyData.showableKv (dk kv) = true ∧ PyData.depthKv (dk kv) ≤ n + 3 ∧ ((PyData.shownKv (dk kv)).map (·.length)).sum ≤ kv.length * (12 + b)
  | [], _, _ => ⟨by simp [dk, PyData.showableKv], by simp [dk, PyData.depthKv], by simp [dk, PyData.shownKv]⟩
  | (s, d) :: kv, h1, h2 => by
    obtain ⟨i1, i2, i3⟩ := kv_facts (kv := kv) (fun p hp => h1 p (List.mem_cons_of_mem _ hp)) fun p hp => h2 p (List.mem_cons_of_mem _ hp)
    have g := h2 _ List.mem_cons_self
    have hs := rl_nm (h1 _ List.mem_cons_self)
    have g2 : d.depth ≤ n + 3 := g.dp
    have g3 : d.shown.length ≤ b := g.ln
    have g1 : d.showable = true := g.sh
    rw [dk_cons]
    refine ⟨by simp [PyData.showableKv, PyData.showable, g1, i1], ?_, ?_⟩
    · have e0 : (PyData.str s).depth = 0 := by simp only [PyData.depth]
      simp only [PyData.depthKv, e0]; omega
    · simp only [PyData.shownKv, List.map_cons, List.sum_cons, strLen_append, PyData.shown, List.length_cons]
      have e2 : (": " : Str).length = 2 := rfl
      have e3 : (kv.length + 1) * (12 + b) = kv.length * (12 + b) + (12 + b) := by rw [Nat.add_mul, Nat.one_mul]
      rw [e2, e3]
      have hs' : (reprText s).length ≤ 10 := hs
      omega
theorem gd_dict {b n L : Nat} {kv : List (Str × D)} (hl : kv.length ≤ L) (hL : L ≤ 1000) (nd : (keysK kv).Nodup) (nm : ∀ p ∈ kv, nmB p.1 = true) (h : ∀ p ∈ kv, GdB b n p.2) : GdB (L * (14 + b) + 3) (n + 1) (.dict (dk kv)) := by
  obtain ⟨i1, i2, i3⟩ := kv_facts nm h
  refine ⟨⟨by rw [dk_length]; omega, fun p hp => ?_⟩, by simpa [PyData.showable] using i1, by simp only [PyData.depth]; omega, ?_, fun s e => nomatch e⟩
  · obtain ⟨s, d, rfl, hm⟩ := dk_mem hp
    exact ⟨fun x e => by cases e; exact nmB_tx (nm _ hm), fun _ => ⟨gIx_dk (lookup_of_mem nd hm), (h _ hm).wf⟩⟩
  · simp only [PyData.shown]
    have e := dictText_len_le (PyData.shownKv (dk kv))
    rw [PyData.shownKv_length, dk_length] at e
    have e2 : kv.length * (12 + b) + 2 * kv.length = kv.length * (14 + b) := by
      have z : kv.length * ((12 + b) + 2) = kv.length * (12 + b) + kv.length * 2 := Nat.mul_add _ _ _
      rw [show 14 + b = (12 + b) + 2 by omega, z, Nat.mul_comm 2]
    have e3 : kv.length * (14 + b) ≤ L * (14 + b) := Nat.mul_le_mul_right _ hl
    omega
theorem gd_int {i : Int} {n : Nat} (h : i.natAbs ≤ 100000000000000000000000000000) : Gd n (.int i) := by
  refine Gd.mono (n := 0) ?_ (Nat.zero_le _)
  refine ⟨trivial, ?_, by simp [PyData.depth], ?_, fun s e => nomatch e⟩
  · simp only [PyData.showable, decide_eq_true_eq]
    have : i.natAbs < 2 ^ 100 := Nat.lt_of_le_of_lt h (by decide)
    by_cases z : i.natAbs = 0
    · rw [z]; decide
    · have := (Nat.log2_lt z).mpr this
      omega
  · simp only [PyData.shown]
    have e := int_text_length_le10 (a := i) (k := 30) (by decide) (Nat.lt_of_le_of_lt h (by decide))
    show (Str.ofString (toString i)).length ≤ 32
    rw [ofString_length]; omega
section
variable {NS : List Str}
theorem kv_mem_rp {n : Nat} {kv : List (Str × D)} {m : Str → Option T} (h1 : (keysK kv).Nodup) (h3 : ∀ s, ORp (Rp NS n) (kv.lookup s) (m s)) {p : Str × D} (hp : p ∈ kv) : ∃ t, Rp NS n p.2 t := by
  have e := lookup_of_mem h1 (show (p.1, p.2) ∈ kv from hp)
  have := h3 p.1
  rw [e] at this
  obtain ⟨t, _, ht⟩ := this.some1
  exact ⟨t, ht⟩
theorem key_mem {kv : List (Str × D)} {p : Str × D} (hp : p ∈ kv) : p.1 ∈ keysK kv := List.mem_map.mpr ⟨p, hp, rfl⟩
theorem gd_rp (N : Nms NS) : ∀ {n : Nat} {d : D} {t : T}, Rp NS (n + 1) d t → Gd n d
  | n, d, t, h => by
    rcases h.cases with ⟨i, rfl, rfl⟩ | ⟨k, kv, m, e, rfl, rfl, h1, h2, h3⟩
    · exact gd_int h.small
    · cases e
      have nm : ∀ p ∈ kv, nmB p.1 = true := fun p hp => N.nm _ (h2 _ (key_mem hp))
      cases n with
      | zero =>
        cases kv with
        | nil => exact ⟨⟨by simp [dk], fun p hp => by simp [dk] at hp⟩, by simp [dk, PyData.showable, PyData.showableKv], by simp [dk, PyData.depth, PyData.depthKv], by decide +kernel, fun s e => nomatch e⟩
        | cons p kv =>
          obtain ⟨t, ht⟩ := kv_mem_rp h1 h3 (List.mem_cons_self (a := p) (l := kv))
          unfold Rp at ht
          exact ht.elim
      | succ n => exact gd_dict (kv_len N h1 h2) (by decide) h1 nm fun p hp => let ⟨t, ht⟩ := kv_mem_rp h1 h3 hp; gd_rp N ht
theorem gd_tr (N : Nms NS) {n : Nat} {d : D} (h : Tr NS (n + 1) d) : Gd n d := by obtain ⟨t, h⟩ := h; exact gd_rp N h
/-- at most so long -/
abbrev bTop : Nat := 5 * (14 + bnd 4) + 3
theorem bTop_le : bTop ≤ sizeLine := by rw [sizeLine_eq]; decide +kernel
theorem bnd4_top : bnd 4 ≤ bTop := by decide +kernel
/-- .. of a law's tree, perhaps with a thing in it -/
def GdT (d : D) : Prop := GdB bTop 5 d
theorem Gd.top {d : D} (h : Gd 4 d) : GdT d := ⟨Wf.up h.wf, h.sh, Nat.le_succ_of_le h.dp, Nat.le_trans h.ln bnd4_top, h.st⟩
theorem gd_trs (N : Nms NS) {d : D} (h : TrS NS d) : GdT d := by
  rcases h with h | ⟨kv, rfl, h, hl⟩
  · exact (gd_tr N h).top
  · exact gd_dict hl (by decide) h.nd (fun p hp => N.nm _ (h.nm _ (key_mem hp))) fun p hp => gd_tr N (h.tr p.1 p.2 (lookup_of_mem h.nd hp))
theorem GdT.repr {d : D} (h : GdT d) : gRepr [d] = some (.dat, .str d.shown) := by
  have c : reprOk d = true := by
    unfold reprOk
    rw [h.sh, decide_eq_true (show d.depth ≤ 60 from Nat.le_trans h.dp (by decide)), decide_eq_true (Nat.le_trans h.ln bTop_le)]
    rfl
  unfold gRepr
  dsimp only
  rw [if_pos c]
end
end Vb
/-! Kc: the odd things. -/
namespace Vb
open PySem L2
theorem gIx_mod {ds : List D} (hne : ds ≠ []) (x : Int) : ∃ d ∈ ds, gIx (.list ds) (.int (x % (ds.length : Int))) = some (.dat, d) := by
  have hl : 0 < ds.length := List.length_pos_iff.mpr hne
  have h1 := Int.emod_nonneg x (show (ds.length : Int) ≠ 0 by omega)
  have h2 := Int.emod_lt_of_pos x (show 0 < (ds.length : Int) by omega)
  obtain ⟨n, hn⟩ := Int.eq_ofNat_of_zero_le h1
  have hn' : n < ds.length := by omega
  refine ⟨ds[n], List.getElem_mem hn', ?_⟩
  rw [hn]
  exact gIx_list (List.getElem?_eq_getElem hn')
def bs8 : Str := "bbbbbbbb"
def oddA (s : Str) : List D := [.bool true, .bool false, .none, .str "", .str "a", .int 1, .int (-1), .int 1000000000000000000000000000000, .tuple [], .list [], .dict [(.int 1, .int 2)], .dict (dk [(s, .bool true)]), .dict (dk [(s, .none)]), .dict (dk [("", .int 1)])]
def oddB (s : Str) : List D := [.dict (dk [("A", .int 1)]), .dict (dk [(s ++ bs8, .int 1)]), .dict (dk [(s, .list [.int 1])]), .dict (dk [(s, .dict (dk [(s, .str "a")]))]), .dict [(.tuple [.str s], .int 1)]]
def oddC (s : Str) : List D := [.dict (dk [("a1", .int 1)]), .dict (dk [(s, .dict [(.none, .int 1)])])]
def oddL (s : Str) : List D := (oddA s ++ oddB s) ++ oddC s
theorem gPlus_str {x y : Str} (h : x.length + y.length ≤ 1000) : gPlus (.str x) (.str y) = some (.dat, .str (x ++ y)) := if_pos (line1000 h)
theorem lawOdd_ok (z : Int) {s : Str} (h : nmB s = true) : ∃ d ∈ oddL s, F_law_odd [.int z, .str s] = .ok .dat d := by
  obtain ⟨d, hd, g⟩ := gIx_mod (ds := oddL s) (by simp [oddL, oddA]) z
  refine ⟨d, hd, ?_⟩
  have hl := nmB_len h
  have gp := gPlus_str (x := s) (y := bs8) (by rw [show bs8.length = 8 from rfl]; omega)
  have e8 : gTimes (.str "b") (.int 8) = some (.dat, .str bs8) := rfl
  have ep : gPow (.int 10) (.int 30) = some (.dat, .int 1000000000000000000000000000000) := (if_pos (e := (none : Option (Md × D))) (show (0 : Int) ≤ 30 ∧ (30 : Int) ≤ 1000000 ∧ (10 : Int).natAbs < 2 ^ 64 by decide)).trans rfl
  unfold F_law_odd
  rw [runS_eq]
  unfold b_law_odd
  rw [show env0 3 [PyData.int z, PyData.str s] = [.dat (.int z), .dat (.str s), .un] from rfl]
  have c1 : ∀ (f g : Ev) (Γ : Env) (x : Str) (v : D), f Γ = .ok .dat (.str x) → g Γ = .ok .dat v → eDisp (pCons f g pNil) Γ = .ok .own (.dict (dk [(x, v)])) := fun f g Γ x v h1 h2 => by
    unfold eDisp pCons pNil; rw [h1, h2]; rfl
  have c2 : ∀ Γ : Env, eDisp (pCons (eC (.int 1)) (eC (.int 2)) pNil) Γ = .ok .own (.dict [(.int 1, .int 2)]) := fun Γ => rfl
  have c3 : ∀ (f g : Ev) (Γ : Env) (k v : D), f Γ = .ok .dat k → g Γ = .ok .dat v → oddKey k = true → eOdd f g Γ = .ok .dat (.dict [(k, v)]) := fun f g Γ k v h1 h2 h3 => by
    unfold eOdd; rw [h1, h2]; dsimp only; rw [if_pos h3]
  have hz : (oddL s).length = 21 := rfl
  rw [hz] at g
  have gm : gMod (.int z) (.int 21) = some (.dat, .int (z % 21)) := gMod_pos (by decide)
  have en : ∀ Γ : Env, eNeg (eC (.int 1)) Γ = .ok .dat (.int (-1)) := fun Γ => rfl
  have gl : ∀ xs ys : List D, xs.length + ys.length ≤ 2000 → gPlus (.list xs) (.list ys) = some (.own, .list (xs ++ ys)) := fun xs ys h => if_pos h
  have n1 : ∀ a c : SV, eDisp (pCons (eVar 1) (eDat (eDisp (pCons (eVar 1) (eC (.str "a")) pNil))) pNil) [a, .dat (.str s), c] = .ok .own (.dict (dk [(s, .dict (dk [(s, .str "a")]))])) := fun a c => rfl
  have n2 : ∀ a c : SV, eOdd (eTup (aCons (eVar 1) aNil)) (eC (.int 1)) [a, .dat (.str s), c] = .ok .dat (.dict [(.tuple [.str s], .int 1)]) := fun a c => rfl
  have n3 : ∀ a c : SV, eDisp (pCons (eVar 1) (eOdd (eC .none) (eC (.int 1))) pNil) [a, .dat (.str s), c] = .ok .own (.dict (dk [(s, .dict [(.none, .int 1)])])) := fun a c => rfl
  have n4 : ∀ a c : SV, eDisp (pCons (eVar 1) (eDat (eLst (aCons (eC (.int 1)) aNil))) pNil) [a, .dat (.str s), c] = .ok .own (.dict (dk [(s, .list [.int 1])])) := fun a c => rfl
  simp [n1, n2, n3, n4, c2, ep, e8, gp, c1, c3, lstO, allDat, oddKey, en, gl, gm]
  change finO ((ofP (gIx (.list (oddL s)) (.int (z % 21)))).toS retO) = _
  have g' : gIx (.list (oddL s)) (.int (z % 21)) = some (.dat, d) := g
  rw [g']
  rfl
/-! ### each of them -/
theorem gd_sc {d : D} (h1 : Wf 3 d) (h2 : d.showable = true) (h3 : d.depth ≤ 3) (h4 : d.shown.length ≤ 32) (h5 : ∀ s, d = .str s → Tx s := by intro s e; cases e) : Gd 0 d := ⟨h1, h2, h3, h4, h5⟩
theorem pair_ln (k v : D) : (PyData.dict [(k, v)]).shown.length = k.shown.length + v.shown.length + 4 := by
  simp only [PyData.shown, PyData.shownKv]
  unfold dictText
  rw [strLen_append, strLen_append, show Str.join ", " [k.shown ++ ": " ++ v.shown] = k.shown ++ ": " ++ v.shown from rfl, strLen_append, strLen_append]
  have e1 : ("{" : Str).length = 1 := rfl
  have e2 : ("}" : Str).length = 1 := rfl
  have e3 : (": " : Str).length = 2 := rfl
  rw [e1, e2, e3]
  omega
theorem pair_wf {n : Nat} {s : Str} {v : D} (hs : Tx s) (h : Wf n v) : Wf (n + 1) (.dict (dk [(s, v)])) := by
  refine ⟨by rw [dk_length]; exact (by decide : 1 ≤ 1000), fun p hp => ?_⟩
  obtain ⟨x, d, rfl, hm⟩ := dk_mem hp
  obtain ⟨rfl, rfl⟩ : x = s ∧ d = v := by simpa using hm
  exact ⟨fun y e => by cases e; exact hs, fun _ => ⟨gIx_dk (by simp [List.lookup]), h⟩⟩
theorem pair_wfO {n : Nat} {k v : D} (h1 : ∀ s, k ≠ .str s) : Wf (n + 1) (.dict [(k, v)]) := by
  refine ⟨by simp, fun p hp => ?_⟩
  obtain rfl : p = (k, v) := by simpa using hp
  refine ⟨fun s e => absurd e (h1 s), fun z => ?_⟩
  cases k with
  | str s => exact absurd rfl (h1 s)
  | _ => cases z
theorem gd_pair {s : Str} {v : D} {b c : Nat} (hs : Tx s) (hb : (reprText s).length ≤ b) (hw : Wf 2 v) (h2 : v.showable = true) (h3 : v.depth ≤ 2) (h4 : v.shown.length ≤ c) (hc : b + c + 4 ≤ 32) : Gd 0 (.dict (dk [(s, v)])) := by
  refine gd_sc (pair_wf hs hw) ?_ ?_ ?_
  · simp [dk, PyData.showable, PyData.showableKv, h2]
  · simp only [dk, List.map_cons, List.map_nil, PyData.depth, PyData.depthKv]
    omega
  · rw [show dk [(s, v)] = [(.str s, v)] from rfl, pair_ln]
    simp only [PyData.shown]
    omega
theorem tx_dec {s : Str} (h : (decide (s.length ≤ 1000) && PyData.strOk s) = true) : Tx s := by
  simp only [Bool.and_eq_true, decide_eq_true_eq] at h
  exact h
theorem nb_let {s : Str} (h : nmB s = true) : ∀ c ∈ (s ++ bs8).cps.toList, letB c = true := by
  intro c hc
  have e : (s ++ bs8).cps.toList = s.cps.toList ++ bs8.cps.toList := by
    show (s.cps ++ bs8.cps).toList = _
    rw [Array.toList_append]
  rw [e] at hc
  rcases List.mem_append.mp hc with hc | hc
  · exact nmB_let h c hc
  · exact (by decide +kernel : ∀ c ∈ bs8.cps.toList, letB c = true) c hc
theorem tx_dec0 {x : Str} (h : (decide (x.length ≤ 1000) && PyData.strOk x) = true) : ∀ s, PyData.str x = .str s → Tx s := fun s e => by cases e; exact tx_dec h
theorem odd_gd {s : Str} (h : nmB s = true) : ∀ d ∈ oddL s, Gd 0 d := by
  have hl := nmB_len h
  have hn := rl_nm h
  have ht := nmB_tx h
  have hb : (reprText (s ++ bs8)).length ≤ 18 := by
    rw [rl_let (nb_let h), strLen_append, show bs8.length = 8 from rfl]; omega
  have htb : Tx (s ++ bs8) := tx_let (by rw [strLen_append, show bs8.length = 8 from rfl]; omega) (nb_let h)
  intro d hd
  unfold oddL oddA oddB oddC at hd
  simp only [List.cons_append, List.nil_append, List.mem_cons, List.not_mem_nil, or_false] at hd
  rcases hd with rfl | rfl | rfl | rfl | rfl | rfl | rfl | rfl | rfl | rfl | rfl | rfl | rfl | rfl | rfl | rfl | rfl | rfl | rfl | rfl | rfl
  · exact gd_sc trivial (by decide +kernel) (by decide +kernel) (by decide +kernel)
  · exact gd_sc trivial (by decide +kernel) (by decide +kernel) (by decide +kernel)
  · exact gd_sc trivial (by decide +kernel) (by decide +kernel) (by decide +kernel)
  · exact gd_sc trivial (by decide +kernel) (by decide +kernel) (by decide +kernel) (tx_dec0 (by decide +kernel))
  · exact gd_sc trivial (by decide +kernel) (by decide +kernel) (by decide +kernel) (tx_dec0 (by decide +kernel))
  · exact gd_sc trivial (by decide +kernel) (by decide +kernel) (by decide +kernel)
  · exact gd_sc trivial (by decide +kernel) (by decide +kernel) (by decide +kernel)
  · exact gd_sc trivial (by decide +kernel) (by decide +kernel) (by decide +kernel)
  · exact gd_sc trivial (by decide +kernel) (by decide +kernel) (by decide +kernel)
  · exact gd_sc trivial (by decide +kernel) (by decide +kernel) (by decide +kernel)
  · exact gd_sc (pair_wfO fun s e => nomatch e) (by decide +kernel) (by decide +kernel) (by decide +kernel)
  · exact gd_pair ht hn trivial (by decide +kernel) (by decide +kernel) (show _ ≤ 4 by decide +kernel) (by decide)
  · exact gd_pair ht hn trivial (by decide +kernel) (by decide +kernel) (show _ ≤ 4 by decide +kernel) (by decide)
  · exact gd_pair (b := 2) (tx_dec (by decide +kernel)) (by decide +kernel) trivial (by decide +kernel) (by decide +kernel) (show _ ≤ 4 by decide +kernel) (by decide)
  · exact gd_pair (b := 3) (tx_dec (by decide +kernel)) (by decide +kernel) trivial (by decide +kernel) (by decide +kernel) (show _ ≤ 4 by decide +kernel) (by decide)
  · exact gd_pair htb hb trivial (by decide +kernel) (by decide +kernel) (show _ ≤ 4 by decide +kernel) (by decide)
  · exact gd_pair ht hn trivial (by decide +kernel) (by decide +kernel) (show _ ≤ 4 by decide +kernel) (by decide)
  · refine gd_pair (c := 17) ht hn (pair_wf ht trivial) (by simp [dk, PyData.showable, PyData.showableKv]) (by simp [dk, PyData.depth, PyData.depthKv]) ?_ (by decide)
    rw [show dk [(s, PyData.str "a")] = [(.str s, .str "a")] from rfl, pair_ln]
    have e : (PyData.shown (.str "a")).length = 3 := by decide +kernel
    have e2 : (PyData.shown (.str s)).length ≤ 10 := by simp only [PyData.shown]; exact hn
    omega
  · refine gd_sc (pair_wfO fun s e => nomatch e) (by simp [PyData.showable, PyData.showableKv, PyData.showableAll]; decide +kernel) (by simp [PyData.depth, PyData.depthKv, PyData.depthAll]) ?_
    rw [pair_ln]
    have e : (PyData.shown (.int 1)).length = 1 := by decide +kernel
    have e2 : (PyData.shown (.tuple [.str s])).length ≤ 10 + 3 := by
      simp only [PyData.shown, PyData.shownAll]
      unfold tupleText
      rw [strLen_append, strLen_append, show Str.join ", " [reprText s] = reprText s from rfl]
      have e1 : ("(" : Str).length = 1 := rfl
      have e2 : (Str.ofString (if ([reprText s].length == 1) = true then ",)" else ")" : String)).length = 2 := rfl
      rw [e1, e2]
      omega
    omega
  · exact gd_pair (b := 4) (tx_dec (by decide +kernel)) (by decide +kernel) trivial (by decide +kernel) (by decide +kernel) (show _ ≤ 4 by decide +kernel) (by decide)
  · exact gd_pair (c := 9) ht hn (pair_wfO fun s e => nomatch e) (by decide +kernel) (by decide +kernel) (by decide +kernel) (by decide)
end Vb
/-! Kd: a thing put into a tree. -/
namespace Vb
open PySem L2
theorem kput_len_in {kv : List (Str × D)} {s : Str} {d : D} (h : s ∈ keysK kv) : (kput kv s d).length = kv.length := by
  rw [← keysK_length, kput_keys, if_pos h, keysK_length]
theorem putIn_step {R : List D → Out} {f : Nat} (hf : F_law_put_in (f + 1) = runS 6 (b_law_put_in R)) {x : D} {c : Int} {kv : List (Str × D)} {P : D → Prop} (h1 : (keysK kv).Nodup) (hl : kv.length ≤ 14) (hp : ∀ p ∈ kv, P p.2) (hx : P x)
    (ih : ∀ p ∈ kv, ∀ c : Int, ∃ m e, R [p.2, .int c, x] = .ok m e ∧ m ≠ .bor ∧ P e) :
    ∃ m e, F_law_put_in (f + 1) [.dict (dk kv), .int c, x] = .ok m e ∧ m ≠ .bor ∧ (e = x ∨ ∃ kv', e = .dict (dk kv') ∧ kv'.length = kv.length ∧ (keysK kv').Nodup ∧ (∀ s ∈ keysK kv', s ∈ keysK kv) ∧ ∀ p ∈ kv', P p.2) := by
  rw [hf, runS_eq]
  unfold b_law_put_in
  rw [show env0 6 [PyData.dict (dk kv), PyData.int c, x] = [.dat (.dict (dk kv)), .dat (.int c), .dat x, .un, .un, .un] from rfl]
  by_cases h0 : kv = []
  · subst h0
    refine ⟨.dat, x, ?_, by simp, .inl rfl⟩
    simp [dk_length]
  · have hne : (kv.length : Int) ≠ 0 := by
      have := List.length_pos_iff.mpr h0; omega
    have gs := gSorted_list (xs := keysK kv) (by rw [keysK_length]; omega)
    have sl : (sortS (keysK kv)).length = kv.length := by rw [← keysK_length kv]; exact (sortS_perm _).length_eq
    obtain ⟨d, hd, gi⟩ := gIx_mod (ds := (sortS (keysK kv)).map PyData.str) (by
      intro z
      have := congrArg List.length z
      rw [List.length_map, sl] at this
      exact h0 (List.length_eq_zero_iff.mp this)) c
    obtain ⟨s, hs, rfl⟩ := List.mem_map.mp hd
    have hsk : s ∈ keysK kv := (sortS_perm _).mem_iff.mp hs
    obtain ⟨w, hw⟩ := Option.isSome_iff_exists.mp (lookup_isSome.mpr hsk)
    have hwm := lookup_some_mem hw
    rw [List.length_map, sl] at gi
    have gm : gMod (.int c) (.int (kv.length : Int)) = some (.dat, .int (c % (kv.length : Int))) := gMod_pos (by have := List.length_pos_iff.mpr h0; omega)
    have d8 : gDiv (.int c) (.int 8) = some (.dat, .int (c / 8)) := gDiv_pos (by decide)
    have d24 : gDiv (.int c) (.int 24) = some (.dat, .int (c / 24)) := gDiv_pos (by decide)
    have m3 : gMod (.int (c / 8)) (.int 3) = some (.dat, .int (c / 8 % 3)) := gMod_pos (by decide)
    have gx := gIx_dk hw
    obtain ⟨m, e, hr, hm, he⟩ := ih _ hwm (c / 24)
    have hr : R [w, .int (c / 24), x] = .ok m e := hr
    have key : ∃ v, P v ∧ ∃ m', ((eIte (eBin gEq (eBin gMod (eBin gDiv (eVar 1) (eC (.int 8))) (eC (.int 3))) (eC (.int 0))) (eVar 2) (eCall 3 R (aCons (eBin gIx (eVar 0) (eVar 5)) (aCons (eBin gDiv (eVar 1) (eC (.int 24))) (aCons (eVar 2) aNil))))) [.dat (.dict (dk kv)), .dat (.int c), .dat x, .own (.list ((sortS (keysK kv)).map .str)), .own (.dict (dk kv)), .dat (.str s)]).dat = .ok m' v := by
      by_cases z : c / 8 % 3 = 0
      · exact ⟨x, hx, .dat, by simp [d8, m3, z]⟩
      · exact ⟨e, he, .dat, by simp [d8, m3, z, gx, d24, hr, noBor_ok e hm, dat_ok e hm]⟩
    obtain ⟨v, hv, m', hk⟩ := key
    have p := sPut_ok (i := 4) (fk := eVar 5) (m2 := .dat) (kv := kv) (s := s) hk rfl rfl (by omega)
    refine ⟨.own, .dict (dk (kput kv s v)), ?_, by simp, .inr ⟨_, rfl, kput_len_in hsk, kput_nodup h1, fun y hy => ?_, fun q hq => ?_⟩⟩
    · simp [dk_length, hne, gs, List.length_map, sl, gm, gi, p, h0]
    · rcases kput_mem.mp hy with rfl | hy
      · exact hsk
      · exact hy
    · have e := lookup_of_mem (kput_nodup (s := s) (d := v) h1) (show (q.1, q.2) ∈ kput kv s v from hq)
      rw [lookup_kput] at e
      split at e
      · cases e; exact hv
      · exact hp _ (lookup_some_mem e)
section
variable {NS : List Str}
theorem putIn_int (f : Nat) (i c : Int) (x : D) : F_law_put_in (f + 1) [.int i, .int c, x] = .ok .dat x := rfl
theorem putIn_rp (N : Nms NS) {x : D} (hx : Gd 0 x) : ∀ {n f : Nat} {d : D} {t : T} {c : Int}, n ≤ f → Rp NS (n + 1) d t → ∃ m e, F_law_put_in (f + 1) [d, .int c, x] = .ok m e ∧ m ≠ .bor ∧ Gd n e
  | n, f, d, t, c, hn, h => by
    rcases h.cases with ⟨i, rfl, rfl⟩ | ⟨k, kv, m, e, rfl, rfl, h1, h2, h3⟩
    · exact ⟨.dat, x, putIn_int f i c x, by simp, hx.mono (Nat.zero_le _)⟩
    · cases e
      cases n with
      | zero =>
        cases kv with
        | nil => exact ⟨.dat, x, rfl, by simp, hx⟩
        | cons p kv =>
          obtain ⟨t, ht⟩ := kv_mem_rp h1 h3 (List.mem_cons_self (a := p) (l := kv))
          unfold Rp at ht
          exact ht.elim
      | succ n =>
        obtain ⟨f, rfl⟩ : ∃ k, f = k + 1 := ⟨f - 1, by omega⟩
        have hl := kv_len N h1 h2
        obtain ⟨m, e, hr, hm, he⟩ := putIn_step (R := F_law_put_in (f + 1)) (f := f + 1) rfl (x := x) (c := c) (P := Gd n) h1 hl (fun p hp => let ⟨t, ht⟩ := kv_mem_rp h1 h3 hp; gd_rp N ht) (hx.mono (Nat.zero_le _)) fun p hp c => by
          obtain ⟨t, ht⟩ := kv_mem_rp h1 h3 hp
          exact putIn_rp N hx (by omega) ht
        refine ⟨m, e, hr, hm, ?_⟩
        rcases he with rfl | ⟨kv', rfl, hl', nd', hk', hg'⟩
        · exact hx.mono (Nat.zero_le _)
        · exact gd_dict (L := 14) (by omega) (by decide) nd' (fun p hp => N.nm _ (h2 _ (hk' _ (key_mem hp)))) hg'
theorem putIn_ok (N : Nms NS) {x d : D} (hx : Gd 0 x) (h : TrS NS d) (c : Int) : ∃ m e, F_law_put_in 20 [d, .int c, x] = .ok m e ∧ m ≠ .bor ∧ GdT e := by
  rcases h with ⟨t, h⟩ | ⟨kv, rfl, h, hl⟩
  · obtain ⟨m, e, a, b, g⟩ := putIn_rp N hx (f := 19) (c := c) (by decide) h
    exact ⟨m, e, a, b, g.top⟩
  · obtain ⟨m, e, hr, hm, he⟩ := putIn_step (R := F_law_put_in 19) (f := 19) rfl (x := x) (c := c) (P := Gd 4) h.nd (by omega) (fun p hp => gd_tr N (h.tr p.1 p.2 (lookup_of_mem h.nd hp))) (hx.mono (Nat.zero_le _)) fun p hp c => by
      obtain ⟨t, ht⟩ := h.tr p.1 p.2 (lookup_of_mem h.nd hp)
      exact putIn_rp N hx (f := 18) (by decide) ht
    refine ⟨m, e, hr, hm, ?_⟩
    rcases he with rfl | ⟨kv', rfl, hl', nd', hk', hg'⟩
    · exact (hx.mono (n := 0) (m := 4) (by decide)).top
    · exact gd_dict (L := 5) (by omega) (by decide) nd' (fun p hp => N.nm _ (h.nm _ (hk' _ (key_mem hp)))) hg'
end
end Vb
/-! Ke: the law's texts. -/
namespace Vb
open PySem L2
theorem tx_iff {s : Str} : Tx s ↔ s.cps.toList.length ≤ 1000 ∧ ∀ c ∈ s.cps.toList, c < 1114112 := by
  unfold Tx PyData.strOk
  rw [Array.all_eq_true']
  constructor
  · rintro ⟨a, b⟩
    exact ⟨a, fun c hc => of_decide_eq_true (b c (by simpa using hc))⟩
  · rintro ⟨a, b⟩
    exact ⟨a, fun c hc => decide_eq_true (b c (by simpa using hc))⟩
/-- a text of at most k signs -/
def TxK (k : Nat) (s : Str) : Prop := s.cps.toList.length ≤ k ∧ ∀ c ∈ s.cps.toList, c < 1114112
theorem TxK.tx {k : Nat} {s : Str} (h : TxK k s) (hk : k ≤ 1000) : Tx s := tx_iff.mpr ⟨Nat.le_trans h.1 hk, h.2⟩
theorem TxK.cut {k : Nat} {s : Str} (h : TxK k s) (lo hi : Option Int) : TxK k (cutS s lo hi) := by
  have e : (cutS s lo hi).cps.toList = ((s.cps.toList.drop (HT.sIx s.length 0 lo)).take (HT.sIx s.length s.length hi - HT.sIx s.length 0 lo)) := rfl
  unfold TxK
  rw [e]
  refine ⟨?_, fun c hc => h.2 c (List.mem_of_mem_drop (List.mem_of_mem_take hc))⟩
  rw [List.length_take, List.length_drop]
  have := h.1
  omega
theorem TxK.app {k l : Nat} {s t : Str} (h : TxK k s) (h' : TxK l t) : TxK (k + l) (s ++ t) := by
  have e : (s ++ t).cps.toList = s.cps.toList ++ t.cps.toList := by
    show (s.cps ++ t.cps).toList = _
    rw [Array.toList_append]
  unfold TxK
  rw [e]
  refine ⟨by rw [List.length_append]; exact Nat.add_le_add h.1 h'.1, fun c hc => ?_⟩
  rcases List.mem_append.mp hc with hc | hc
  · exact h.2 c hc
  · exact h'.2 c hc
theorem TxK.nm {s : Str} (h : nmB s = true) : TxK 8 s := ⟨(nmB_len h).2, fun c hc => let_lt c (letB_mem (nmB_let h c hc))⟩
theorem TxK.dec {k : Nat} {s : Str} (h : (decide (s.cps.toList.length ≤ k) && s.cps.toList.all fun c => decide (c < 1114112)) = true) : TxK k s := by
  simp only [Bool.and_eq_true, decide_eq_true_eq, List.all_eq_true] at h
  exact h
theorem gIx_str {z : Str} {i : Nat} {k : Nat} (hz : TxK k z) (hk : k ≤ 1000) (hi : i < z.length) : ∃ y, gIx (.str z) (.int (i : Int)) = some (.dat, .str y) ∧ TxK 1 y := by
  have hi' : i < z.cps.toList.length := hi
  refine ⟨⟨#[z.cps.toList[i]]⟩, ?_, ?_⟩
  · unfold gIx
    dsimp only
    rw [if_pos (show z.length ≤ sizeLine from line1000 (Nat.le_trans hz.1 hk)), atI_nat (List.getElem?_eq_getElem hi')]
    rfl
  · refine ⟨by simp, fun c hc => ?_⟩
    have : c = z.cps.toList[i] := by simpa using hc
    rw [this]
    exact hz.2 _ (List.getElem_mem hi')
theorem eSl_to {f g : Ev} {Γ : Env} {m m2 : Md} {x : Str} {j : Int} (hl : x.length ≤ 1000) (hf : f Γ = .ok m (.str x)) (hg : g Γ = .ok m2 (.int j)) : eSl f (eC .none) (eI g) Γ = .ok .dat (.str (cutS x none (some j))) := by
  show (f Γ).bind _ = _
  rw [hf]
  show (eI g Γ).bind _ = _
  rw [eI_ok g Γ m2 _ hg]
  show (match gSl (.str x) none (some j) with
    | some (m, d) => Out.ok m d
    | none => .stuck) = _
  have : gSl (.str x) none (some j) = some (.dat, .str (cutS x none (some j))) := if_pos (line1000 hl)
  rw [this]
theorem eSl_from {f g : Ev} {Γ : Env} {m m2 : Md} {x : Str} {j : Int} (hl : x.length ≤ 1000) (hf : f Γ = .ok m (.str x)) (hg : g Γ = .ok m2 (.int j)) : eSl f (eI g) (eC .none) Γ = .ok .dat (.str (cutS x (some j) none)) := by
  show (f Γ).bind _ = _
  rw [hf]
  show (eI g Γ).bind _ = _
  rw [eI_ok g Γ m2 _ hg]
  show (match gSl (.str x) (some j) none with
    | some (m, d) => Out.ok m d
    | none => .stuck) = _
  have : gSl (.str x) (some j) none = some (.dat, .str (cutS x (some j) none)) := if_pos (line1000 hl)
  rw [this]
def sgns : Str := " !#&()*+,-./0123456789:;<=>?@ABCDEFGHIJKLMNOPQRSTUVWXYZ[]^_{|}~"
def nine : Str := "abcdefghi"
theorem sgns_tx : TxK 100 sgns := .dec (by decide +kernel)
theorem nine_tx : TxK 9 nine := .dec (by decide +kernel)
theorem sgns_len : gLen [.str sgns] = some (.dat, .int sgns.length) := gLen_str (by decide +kernel)
theorem sgns_pos : 0 < sgns.length := by decide +kernel
theorem gTimes2 {s : Str} (h : TxK 8 s) : ∃ y, gTimes (.str s) (.int 2) = some (.dat, .str y) ∧ TxK 16 y := by
  refine ⟨_, if_pos ⟨by decide, by decide, Nat.le_trans h.1 (by decide)⟩, ?_⟩
  have e : (⟨(List.replicate (2 : Int).toNat s.cps.toList).flatten.toArray⟩ : Str).cps.toList = s.cps.toList ++ s.cps.toList := by
    show (List.replicate 2 s.cps.toList).flatten = _
    simp [List.replicate]
  unfold TxK
  rw [e]
  refine ⟨by rw [List.length_append]; have := h.1; omega, fun c hc => ?_⟩
  rcases List.mem_append.mp hc with hc | hc <;> exact h.2 c hc
theorem lawText_ok (c : Int) {s : Str} (h : nmB s = true) : ∃ x, F_law_text [.int c, .str s] = .ok .dat (.str x) ∧ Tx x := by
  have hs := TxK.nm h
  have hl : s.length ≤ 1000 := Nat.le_trans hs.1 (by decide)
  have g4 : gDiv (.int c) (.int 4) = some (.dat, .int (c / 4)) := gDiv_pos (by decide)
  have g40 : gDiv (.int c) (.int 40) = some (.dat, .int (c / 40)) := gDiv_pos (by decide)
  have m4 : gMod (.int c) (.int 4) = some (.dat, .int (c % 4)) := gMod_pos (by decide)
  have ml : gMod (.int (c / 4)) (.int ((s.length : Int) + 1)) = some (.dat, .int (c / 4 % ((s.length : Int) + 1))) := gMod_pos (by omega)
  have ms : gMod (.int (c / 40)) (.int (sgns.length : Int)) = some (.dat, .int (c / 40 % (sgns.length : Int))) := gMod_pos (by have := sgns_pos; omega)
  have m10 : gMod (.int (c / 4)) (.int 10) = some (.dat, .int (c / 4 % 10)) := gMod_pos (by decide)
  obtain ⟨n, hn⟩ := Int.eq_ofNat_of_zero_le (show 0 ≤ c / 40 % (sgns.length : Int) from Int.emod_nonneg _ (by have := sgns_pos; omega))
  have hnl : n < sgns.length := by
    have := Int.emod_lt_of_pos (c / 40) (show 0 < (sgns.length : Int) by have := sgns_pos; omega)
    omega
  obtain ⟨y, hy, ty⟩ := gIx_str sgns_tx (by decide) hnl
  rw [← hn] at hy
  obtain ⟨w, hw, tw⟩ := gTimes2 hs
  let j : Int := c / 4 % ((s.length : Int) + 1)
  have ml' : gMod (.int (c / 4)) (.int ((s.length : Int) + 1)) = some (.dat, .int j) := ml
  have start : F_law_text [.int c, .str s] = finO (b_law_text [.dat (.int c), .dat (.str s), .un, .un]) := by unfold F_law_text; rw [runS_eq]; rfl
  rw [start]
  unfold b_law_text
  have sl1 := eSl_to (f := eVar 1) (g := eVar 3) (Γ := [.dat (.int c), .dat (.str s), .dat (.str sgns), .dat (.int j)]) (m := .dat) (m2 := .dat) (x := s) (j := j) hl rfl rfl
  have sl2 := eSl_from (f := eVar 1) (g := eVar 3) (Γ := [.dat (.int c), .dat (.str s), .dat (.str sgns), .dat (.int j)]) (m := .dat) (m2 := .dat) (x := s) (j := j) hl rfl rfl
  have sl3 := eSl_to (f := eC (.str nine)) (g := eBin gMod (eBin gDiv (eVar 0) (eC (.int 4))) (eC (.int 10))) (Γ := [.dat (.int c), .dat (.str s), .dat (.str sgns), .dat (.int j)]) (m := .dat) (m2 := .dat) (x := nine) (j := c / 4 % 10) (Nat.le_trans nine_tx.1 (by decide)) rfl (by simp [g4, m10])
  have t1 := hs.cut none (some j)
  have t2 := hs.cut (some j) none
  have t3 := nine_tx.cut none (some (c / 4 % 10))
  have pl1 := gPlus_str (x := cutS s none (some j)) (y := y) (by have := t1.1; have := ty.1; show (cutS s none (some j)).cps.toList.length + y.cps.toList.length ≤ 1000; omega)
  have t12 := t1.app ty
  have pl2 := gPlus_str (x := cutS s none (some j) ++ y) (y := cutS s (some j) none) (by have := t12.1; have := t2.1; show (cutS s none (some j) ++ y).cps.toList.length + (cutS s (some j) none).cps.toList.length ≤ 1000; omega)
  have t123 := t12.app t2
  have fold1 : (PySem.Str.ofString " !#&()*+,-./0123456789:;<=>?@ABCDEFGHIJKLMNOPQRSTUVWXYZ[]^_{|}~") = sgns := rfl
  have fold2 : (PySem.Str.ofString "abcdefghi") = nine := rfl
  by_cases z : c % 4 = 0
  · refine ⟨_, ?_, t123.tx (by decide)⟩
    simp [fold1, g4, ml', gLen_str hl, m4, z, sl1, sl2, g40, sgns_len, ms, hy, pl1, pl2]
  · rcases (show c % 4 = 1 ∨ c % 4 = 2 ∨ c % 4 = 3 by omega) with q | q | q
    · refine ⟨w, ?_, tw.tx (by decide)⟩
      simp [fold1, fold2, g4, ml', gLen_str hl, m4, q, sl1, sl3, hw, gIx_l1]
    · refine ⟨_, ?_, t3.tx (by decide)⟩
      simp [fold1, fold2, g4, ml', gLen_str hl, m4, q, sl1, sl3, hw, gIx_l2]
    · refine ⟨_, ?_, t1.tx (by decide)⟩
      simp [fold1, fold2, g4, ml', gLen_str hl, m4, q, sl1, sl3, hw, gIx_l3]
end Vb
/-! Kf: the law is true (kf.py prints this text). -/
namespace Vb
open PySem L2
/-- a thing that may be looked at -/
def Thing (d : D) : Prop := (∃ n, n ≤ 19 ∧ Wf n d) ∧ ∀ s, d = .str s → Tx s
theorem GdB.thing {b n : Nat} {d : D} (h : GdB b n d) (hn : n ≤ 16) : Thing d := ⟨⟨n + 3, by omega, h.wf⟩, h.st⟩
theorem Tx.thing {s : Str} (h : Tx s) : Thing (.str s) := ⟨⟨0, by omega, trivial⟩, fun x e => by cases e; exact h⟩
theorem gNe_bools (x y z : Bool) : gNe (.list [.bool x, .bool y, .bool z]) (.list [.bool x, .bool y, .bool z]) = some (.dat, .bool false) := by cases x <;> cases y <;> cases z <;> rfl
theorem inner_ok {d : D} (h : Thing d) (a0 a1 a2 a3 a4 a5 a6 b8 b9 b10 b11 b12 : SV) : ∃ c8 c9 c10, (sSeq (sAsg 8 (eAnd (eIsT "dict" (eVar 7)) (eCall 1 (F_law_is_tree 20) (aCons (eVar 7) aNil)))) (sSeq (sAsg 8 (eAnd (eVar 8) (eFn gAll (aCons (eLC [11] (iVal (eVar 7)) (bName 11) eYes (eIsT "dict" (eBin gIx (eVar 7) (eVar 11)))) aNil)))) (sSeq (sAsg 9 (eLst (aCons (eDat (eCall 1 F_law_is_name (aCons (eVar 7) aNil))) (aCons (eDat (eCall 1 (F_law_is_tree 20) (aCons (eVar 7) aNil))) (aCons (eVar 8) aNil))))) (sSeq (sAsg 10 (eLst (aCons (eDat (eCall 1 F_is_name (aCons (eVar 7) aNil))) (aCons (eDat (eCall 1 (F_is_tree 186) (aCons (eVar 7) aNil))) (aCons (eDat (eCall 1 F_is_table (aCons (eVar 7) aNil))) aNil))))) (sFrz 10 (sIf (eOr (eBin gNe (eLC [12] (iVal (eVar 10)) (bName 12) (eNot (eIsT "bool" (eVar 12))) (eVar 12)) (eLst aNil)) (eBin gNe (eVar 10) (eVar 9))) (sRet (eC (.bool false))) sNil)))))) [a0, a1, a2, a3, a4, a5, a6, .dat d, b8, b9, b10, b11, b12] = .nx [a0, a1, a2, a3, a4, a5, a6, .dat d, c8, c9, c10, b11, b12] := by
  obtain ⟨⟨n, hn, wf⟩, hs⟩ := h
  have q1 := lawIsTree_wf (m := 19) wf hn
  have q2 := isTree_wf (m := 185) wf (by omega)
  have q3 := isTable_wf wf (by omega)
  have q4 := isName_any hs
  have q5 := lawIsName_any hs
  have q1 : F_law_is_tree 20 [d] = .ok .dat (.bool (isT n d)) := q1
  have q2 : F_is_tree 186 [d] = .ok .dat (.bool (isT n d)) := q2
  have s8 : ∀ b : SV, ((eAnd (eVar 8) (eFn gAll (aCons (eLC [11] (iVal (eVar 7)) (bName 11) eYes (eIsT "dict" (eBin gIx (eVar 7) (eVar 11)))) aNil))) [a0, a1, a2, a3, a4, a5, a6, .dat d, .dat (.bool (isTyp "dict" d && isT n d)), b9, b10, b11, b12]) = .ok .dat (.bool (isTb n d)) := fun b => by
    rw [eAnd_eq]
    cases c : (isTyp "dict" d && isT n d) with
    | false =>
      have e : isTb n d = false := by
        unfold isTb
        cases d with
        | dict ds =>
          have : isT n (.dict ds) = false := by simpa using c
          rw [this]; rfl
        | _ => unfold allB; rw [Bool.and_false]
      rw [e]
      rfl
    | true =>
      cases d with
      | dict ds =>
        have ht : isT n (.dict ds) = true := by simpa using c
        cases n with
        | zero => exact wf.elim
        | succ n =>
          have al := allDict_ok wf ht (i := 7) (j := 11) (Γ := [a0, a1, a2, a3, a4, a5, a6, .dat (.dict ds), .dat (.bool true), b9, b10, b11, b12]) rfl rfl (by decide) (by simp)
          rw [al]
          unfold isTb
          rw [ht]
          rfl
      | _ => simp at c
  have fl : ∀ (x y z : Bool) (c8 c9 : SV), eLC [12] (iVal (eVar 10)) (bName 12) (eNot (eIsT "bool" (eVar 12))) (eVar 12) [a0, a1, a2, a3, a4, a5, a6, .dat d, c8, c9, .dat (.list [.bool x, .bool y, .bool z]), b11, b12] = .ok .own (.list []) := fun x y z c8 c9 => rfl
  have g0 : gNe (.list []) (.list []) = some (.dat, .bool false) := rfl
  have e8 : (cond (isTyp "dict" d) (Out.ok .dat (.bool (isT n d))) (Out.ok .dat (.bool false))) = .ok .dat (.bool (isTyp "dict" d && isT n d)) := by cases isTyp "dict" d <;> rfl
  refine ⟨.dat (.bool (isTb n d)), .own (.list [.bool (nmD d), .bool (isT n d), .bool (isTb n d)]), .dat (.list [.bool (nmD d), .bool (isT n d), .bool (isTb n d)]), ?_⟩
  have k1 : (sAsg 8 (eAnd (eIsT "dict" (eVar 7)) (eCall 1 (F_law_is_tree 20) (aCons (eVar 7) aNil)))) [a0, a1, a2, a3, a4, a5, a6, .dat d, b8, b9, b10, b11, b12] = .nx [a0, a1, a2, a3, a4, a5, a6, .dat d, .dat (.bool (isTyp "dict" d && isT n d)), b9, b10, b11, b12] := by
    simp [q1, e8]
  have k2 : (sAsg 8 (eAnd (eVar 8) (eFn gAll (aCons (eLC [11] (iVal (eVar 7)) (bName 11) eYes (eIsT "dict" (eBin gIx (eVar 7) (eVar 11)))) aNil)))) [a0, a1, a2, a3, a4, a5, a6, .dat d, .dat (.bool (isTyp "dict" d && isT n d)), b9, b10, b11, b12] = .nx [a0, a1, a2, a3, a4, a5, a6, .dat d, .dat (.bool (isTb n d)), b9, b10, b11, b12] := by
    rw [sAsg_eq, s8 b8]; rfl
  rw [sSeq_eq, k1, sq_nx, sSeq_eq, k2, sq_nx]
  simp [q1, q2, q3, q4, q5, fl, g0, gNe_bools]
/-- an own result, or data -/
def svO : Md → D → SV
  | .own, d => .own d
  | _, d => .dat d
theorem asgO_ok {i : Nat} {Γ : Env} {m : Md} {d : D} (h : m ≠ .bor) : asgO i Γ m d = .nx (Γ.set i (svO m d)) := by cases m <;> first | rfl | exact absurd rfl h
section
variable {NS : List Str}
abbrev bodyK : Ss := (sSeq (sFrz 2 (sAsg 4 (eCall 3 (F_law_put_in 20) (aCons (eVar 2) (aCons (eBin gDiv (eVar 3) (eC (.int 3))) (aCons (eDat (eCall 2 F_law_odd (aCons (eVar 3) (aCons (eBin gIx (eVar 1) (eBin gMod (eVar 3) (eC (.int 14)))) aNil)))) aNil)))))) (sSeq (sAsg 5 (eFn gRepr (aCons (eVar 4) aNil))) (sSeq (sFrz 2 (sFrz 4 (sAsg 6 (eLst (aCons (eVar 2) (aCons (eVar 4) (aCons (eDat (eCall 2 F_law_odd (aCons (eBin gDiv (eVar 3) (eC (.int 21))) (aCons (eBin gIx (eVar 1) (eC (.int 3))) aNil)))) (aCons (eDat (eCall 2 F_law_text (aCons (eVar 3) (aCons (eBin gIx (eVar 1) (eBin gMod (eBin gDiv (eVar 3) (eC (.int 5))) (eC (.int 14)))) aNil)))) aNil)))))))) (sSeq (sFrz 6 (sFor (iVal (eVar 6)) (bName 7) (sSeq (sAsg 8 (eAnd (eIsT "dict" (eVar 7)) (eCall 1 (F_law_is_tree 20) (aCons (eVar 7) aNil)))) (sSeq (sAsg 8 (eAnd (eVar 8) (eFn gAll (aCons (eLC [11] (iVal (eVar 7)) (bName 11) eYes (eIsT "dict" (eBin gIx (eVar 7) (eVar 11)))) aNil)))) (sSeq (sAsg 9 (eLst (aCons (eDat (eCall 1 F_law_is_name (aCons (eVar 7) aNil))) (aCons (eDat (eCall 1 (F_law_is_tree 20) (aCons (eVar 7) aNil))) (aCons (eVar 8) aNil))))) (sSeq (sAsg 10 (eLst (aCons (eDat (eCall 1 F_is_name (aCons (eVar 7) aNil))) (aCons (eDat (eCall 1 (F_is_tree 186) (aCons (eVar 7) aNil))) (aCons (eDat (eCall 1 F_is_table (aCons (eVar 7) aNil))) aNil))))) (sFrz 10 (sIf (eOr (eBin gNe (eLC [12] (iVal (eVar 10)) (bName 12) (eNot (eIsT "bool" (eVar 12))) (eVar 12)) (eLst aNil)) (eBin gNe (eVar 10) (eVar 9))) (sRet (eC (.bool false))) sNil)))))))) (sIf (eBin gNe (eFn gRepr (aCons (eVar 4) aNil)) (eVar 5)) (sRet (eC (.bool false))) sNil)))))
theorem turn_ok (N : Nms NS) (ns : List Int) {t : D} (ht : TrS NS t) (z : Int) (sv : SV) (hv : sv = .dat t ∨ sv = .own t) (b4 b5 b6 b7 b8 b9 b10 b11 b12 : SV) :
    ∃ c4 c5 c6 c7 c8 c9 c10 c11 c12, bodyK [.dat (scr ns), .dat (.list (NS.map .str)), sv, .dat (.int z), b4, b5, b6, b7, b8, b9, b10, b11, b12] = .nx [.dat (scr ns), .dat (.list (NS.map .str)), .dat t, .dat (.int z), c4, c5, c6, c7, c8, c9, c10, c11, c12] := by
  have g := fun (j : Int) (h1 : 0 ≤ j) (h2 : j < 14) => gIx_nth N h1 h2
  have mm := fun (j : Int) (h1 : 0 ≤ j) (h2 : j < 14) => nth_mem N h1 h2
  have z14 : gMod (.int z) (.int 14) = some (.dat, .int (z % 14)) := gMod_pos (by decide)
  have z3 : gDiv (.int z) (.int 3) = some (.dat, .int (z / 3)) := gDiv_pos (by decide)
  have z21 : gDiv (.int z) (.int 21) = some (.dat, .int (z / 21)) := gDiv_pos (by decide)
  have z5 : gDiv (.int z) (.int 5) = some (.dat, .int (z / 5)) := gDiv_pos (by decide)
  have z514 : gMod (.int (z / 5)) (.int 14) = some (.dat, .int (z / 5 % 14)) := gMod_pos (by decide)
  have gz := g (z % 14) (by omega) (by omega)
  have gz5 := g (z / 5 % 14) (by omega) (by omega)
  have g3 := g 3 (by decide) (by decide)
  obtain ⟨x, hx, ox⟩ := lawOdd_ok z (N.nm _ (mm (z % 14) (by omega) (by omega)))
  have gx := odd_gd (N.nm _ (mm (z % 14) (by omega) (by omega))) x hx
  obtain ⟨y, hy, oy⟩ := lawOdd_ok (z / 21) (N.nm _ (mm 3 (by decide) (by decide)))
  have gy := odd_gd (N.nm _ (mm 3 (by decide) (by decide))) y hy
  obtain ⟨w, ow, tw⟩ := lawText_ok z (N.nm _ (mm (z / 5 % 14) (by omega) (by omega)))
  obtain ⟨m, e, pe, hm, ge⟩ := putIn_ok N gx ht (z / 3)
  have rp := ge.repr
  have gt := gd_trs N ht
  -- the odd tree
  have k1 : (sFrz 2 (sAsg 4 (eCall 3 (F_law_put_in 20) (aCons (eVar 2) (aCons (eBin gDiv (eVar 3) (eC (.int 3))) (aCons (eDat (eCall 2 F_law_odd (aCons (eVar 3) (aCons (eBin gIx (eVar 1) (eBin gMod (eVar 3) (eC (.int 14)))) aNil)))) aNil)))))) [.dat (scr ns), .dat (.list (NS.map .str)), sv, .dat (.int z), b4, b5, b6, b7, b8, b9, b10, b11, b12] = .nx [.dat (scr ns), .dat (.list (NS.map .str)), .dat t, .dat (.int z), svO m e, b5, b6, b7, b8, b9, b10, b11, b12] := by
    rcases hv with rfl | rfl <;> simp [z3, z14, gz, ox, pe, noBor_ok e hm, asgO_ok hm]
  have k2 : (sAsg 5 (eFn gRepr (aCons (eVar 4) aNil))) [.dat (scr ns), .dat (.list (NS.map .str)), .dat t, .dat (.int z), svO m e, b5, b6, b7, b8, b9, b10, b11, b12] = .nx [.dat (scr ns), .dat (.list (NS.map .str)), .dat t, .dat (.int z), svO m e, .dat (.str e.shown), b6, b7, b8, b9, b10, b11, b12] := by
    cases m with
    | bor => exact absurd rfl hm
    | own => simp [svO, rp]
    | dat => simp [svO, rp]
  have k3 : (sFrz 2 (sFrz 4 (sAsg 6 (eLst (aCons (eVar 2) (aCons (eVar 4) (aCons (eDat (eCall 2 F_law_odd (aCons (eBin gDiv (eVar 3) (eC (.int 21))) (aCons (eBin gIx (eVar 1) (eC (.int 3))) aNil)))) (aCons (eDat (eCall 2 F_law_text (aCons (eVar 3) (aCons (eBin gIx (eVar 1) (eBin gMod (eBin gDiv (eVar 3) (eC (.int 5))) (eC (.int 14)))) aNil)))) aNil)))))))) [.dat (scr ns), .dat (.list (NS.map .str)), .dat t, .dat (.int z), svO m e, .dat (.str e.shown), b6, b7, b8, b9, b10, b11, b12] = .nx [.dat (scr ns), .dat (.list (NS.map .str)), .dat t, .dat (.int z), .dat e, .dat (.str e.shown), .own (.list [t, e, y, .str w]), b7, b8, b9, b10, b11, b12] := by
    cases m with
    | bor => exact absurd rfl hm
    | own => simp [svO, z21, g3, oy, z5, z514, gz5, ow]
    | dat => simp [svO, z21, g3, oy, z5, z514, gz5, ow]
  -- the four things
  obtain ⟨Γ', k4, c7, c8, c9, c10, rfl⟩ := sFor_inv (fi := iVal (eVar 6)) (b := bName 7) (f := (sSeq (sAsg 8 (eAnd (eIsT "dict" (eVar 7)) (eCall 1 (F_law_is_tree 20) (aCons (eVar 7) aNil)))) (sSeq (sAsg 8 (eAnd (eVar 8) (eFn gAll (aCons (eLC [11] (iVal (eVar 7)) (bName 11) eYes (eIsT "dict" (eBin gIx (eVar 7) (eVar 11)))) aNil)))) (sSeq (sAsg 9 (eLst (aCons (eDat (eCall 1 F_law_is_name (aCons (eVar 7) aNil))) (aCons (eDat (eCall 1 (F_law_is_tree 20) (aCons (eVar 7) aNil))) (aCons (eVar 8) aNil))))) (sSeq (sAsg 10 (eLst (aCons (eDat (eCall 1 F_is_name (aCons (eVar 7) aNil))) (aCons (eDat (eCall 1 (F_is_tree 186) (aCons (eVar 7) aNil))) (aCons (eDat (eCall 1 F_is_table (aCons (eVar 7) aNil))) aNil))))) (sFrz 10 (sIf (eOr (eBin gNe (eLC [12] (iVal (eVar 10)) (bName 12) (eNot (eIsT "bool" (eVar 12))) (eVar 12)) (eLst aNil)) (eBin gNe (eVar 10) (eVar 9))) (sRet (eC (.bool false))) sNil))))))) (Γ := [.dat (scr ns), .dat (.list (NS.map .str)), .dat t, .dat (.int z), .dat e, .dat (.str e.shown), .dat (.list [t, e, y, .str w]), b7, b8, b9, b10, b11, b12]) (ds := [t, e, y, .str w])
    (fun Γ => ∃ c7 c8 c9 c10, Γ = [.dat (scr ns), .dat (.list (NS.map .str)), .dat t, .dat (.int z), .dat e, .dat (.str e.shown), .dat (.list [t, e, y, .str w]), c7, c8, c9, c10, b11, b12])
    (iVal_list (m := .dat) rfl (by simp)) ⟨_, _, _, _, rfl⟩ fun d Γ hd ⟨c7, c8, c9, c10, eΓ⟩ => by
      subst eΓ
      have th : Thing d := by
        simp only [List.mem_cons, List.not_mem_nil, or_false] at hd
        rcases hd with rfl | rfl | rfl | rfl
        · exact GdB.thing gt (by decide)
        · exact GdB.thing ge (by decide)
        · exact GdB.thing gy (by decide)
        · exact tw.thing
      obtain ⟨x8, x9, x10, run⟩ := inner_ok th (.dat (scr ns)) (.dat (.list (NS.map .str))) (.dat t) (.dat (.int z)) (.dat e) (.dat (.str e.shown)) (.dat (.list [t, e, y, .str w])) c8 c9 c10 b11 b12
      exact ⟨_, _, rfl, run, _, _, _, _, rfl⟩
  refine ⟨.dat e, .dat (.str e.shown), .dat (.list [t, e, y, .str w]), c7, c8, c9, c10, b11, b12, ?_⟩
  show ((sSeq (sFrz 2 (sAsg 4 (eCall 3 (F_law_put_in 20) (aCons (eVar 2) (aCons (eBin gDiv (eVar 3) (eC (.int 3))) (aCons (eDat (eCall 2 F_law_odd (aCons (eVar 3) (aCons (eBin gIx (eVar 1) (eBin gMod (eVar 3) (eC (.int 14)))) aNil)))) aNil)))))) (sSeq (sAsg 5 (eFn gRepr (aCons (eVar 4) aNil))) (sSeq (sFrz 2 (sFrz 4 (sAsg 6 (eLst (aCons (eVar 2) (aCons (eVar 4) (aCons (eDat (eCall 2 F_law_odd (aCons (eBin gDiv (eVar 3) (eC (.int 21))) (aCons (eBin gIx (eVar 1) (eC (.int 3))) aNil)))) (aCons (eDat (eCall 2 F_law_text (aCons (eVar 3) (aCons (eBin gIx (eVar 1) (eBin gMod (eBin gDiv (eVar 3) (eC (.int 5))) (eC (.int 14)))) aNil)))) aNil)))))))) (sSeq (sFrz 6 (sFor (iVal (eVar 6)) (bName 7) (sSeq (sAsg 8 (eAnd (eIsT "dict" (eVar 7)) (eCall 1 (F_law_is_tree 20) (aCons (eVar 7) aNil)))) (sSeq (sAsg 8 (eAnd (eVar 8) (eFn gAll (aCons (eLC [11] (iVal (eVar 7)) (bName 11) eYes (eIsT "dict" (eBin gIx (eVar 7) (eVar 11)))) aNil)))) (sSeq (sAsg 9 (eLst (aCons (eDat (eCall 1 F_law_is_name (aCons (eVar 7) aNil))) (aCons (eDat (eCall 1 (F_law_is_tree 20) (aCons (eVar 7) aNil))) (aCons (eVar 8) aNil))))) (sSeq (sAsg 10 (eLst (aCons (eDat (eCall 1 F_is_name (aCons (eVar 7) aNil))) (aCons (eDat (eCall 1 (F_is_tree 186) (aCons (eVar 7) aNil))) (aCons (eDat (eCall 1 F_is_table (aCons (eVar 7) aNil))) aNil))))) (sFrz 10 (sIf (eOr (eBin gNe (eLC [12] (iVal (eVar 10)) (bName 12) (eNot (eIsT "bool" (eVar 12))) (eVar 12)) (eLst aNil)) (eBin gNe (eVar 10) (eVar 9))) (sRet (eC (.bool false))) sNil)))))))) (sIf (eBin gNe (eFn gRepr (aCons (eVar 4) aNil)) (eVar 5)) (sRet (eC (.bool false))) sNil)))))) _ = _
  rw [sSeq_eq, k1, sq_nx, sSeq_eq, k2, sq_nx, sSeq_eq, k3, sq_nx, sSeq_eq, sFrz_eq]
  rw [show frzS [SV.dat (scr ns), .dat (.list (NS.map .str)), .dat t, .dat (.int z), .dat e, .dat (.str e.shown), .own (.list [t, e, y, .str w]), b7, b8, b9, b10, b11, b12] 6 ([SV.dat (scr ns), .dat (.list (NS.map .str)), .dat t, .dat (.int z), .dat e, .dat (.str e.shown), .own (.list [t, e, y, .str w]), b7, b8, b9, b10, b11, b12])[6]? = [.dat (scr ns), .dat (.list (NS.map .str)), .dat t, .dat (.int z), .dat e, .dat (.str e.shown), .dat (.list [t, e, y, .str w]), b7, b8, b9, b10, b11, b12] from rfl, k4, sq_nx]
  simp [rp]
end
theorem law_true (ns : List Int) (h : ns.length ≤ 63) (_ : ∀ i ∈ ns, Builtin.Int.intBits i ≤ 1048576) : F_law [.list (ns.map .int)] = .ok .dat (.bool true) := by
  obtain ⟨z, hz⟩ := lawNames_ok ns
  have N := nms_lnames z
  obtain ⟨m, t, r1, r2, r3⟩ := lawHouse_ok N ns
  generalize lnames z = NS at hz N r1 r3
  have k1 : (sAsg 1 (eCall 1 F_law_names (aCons (eVar 0) aNil))) [.dat (scr ns), .un, .un, .un, .un, .un, .un, .un, .un, .un, .un, .un, .un] = .nx [.dat (scr ns), .own (.list (NS.map .str)), .un, .un, .un, .un, .un, .un, .un, .un, .un, .un, .un] := by simp [hz]
  have k2 : (sFrz 1 (sAsg 2 (eCall 2 F_law_house (aCons (eVar 0) (aCons (eVar 1) aNil))))) [.dat (scr ns), .own (.list (NS.map .str)), .un, .un, .un, .un, .un, .un, .un, .un, .un, .un, .un] = .nx [.dat (scr ns), .dat (.list (NS.map .str)), svO m t, .un, .un, .un, .un, .un, .un, .un, .un, .un, .un] := by simp [r1, noBor_ok t r2, asgO_ok r2]
  have hv : svO m t = .dat t ∨ svO m t = .own t := by
    cases m with
    | bor => exact absurd rfl r2
    | own => exact .inr rfl
    | dat => exact .inl rfl
  obtain ⟨Γ', k3, sv, b3, b4, b5, b6, b7, b8, b9, b10, b11, b12, rfl, _⟩ := sFor_inv (fi := iVal (eSl (eVar 0) (eI (eC (.int 2))) (eI (eC (.int 26))))) (b := bName 3) (f := bodyK) (Γ := [.dat (scr ns), .dat (.list (NS.map .str)), svO m t, .un, .un, .un, .un, .un, .un, .un, .un, .un, .un]) (ds := (cutG ns (some 2) (some 26)).map .int)
    (fun Γ => ∃ sv b3 b4 b5 b6 b7 b8 b9 b10 b11 b12, Γ = [.dat (scr ns), .dat (.list (NS.map .str)), sv, b3, b4, b5, b6, b7, b8, b9, b10, b11, b12] ∧ (sv = .dat t ∨ sv = .own t))
    (iVal_list (m := .own) (by
      rw [eSl_list (f := eVar 0) (m := .dat) (ds := ns.map .int) (a := 2) (b := 26) rfl rfl rfl, cutG_map]) (by simp)) ⟨_, _, _, _, _, _, _, _, _, _, _, rfl, hv⟩ fun d Γ hd ⟨sv, b3, b4, b5, b6, b7, b8, b9, b10, b11, b12, eΓ, hsv⟩ => by
      subst eΓ
      obtain ⟨cell, _, rfl⟩ := List.mem_map.mp hd
      obtain ⟨c4, c5, c6, c7, c8, c9, c10, c11, c12, run⟩ := turn_ok N ns r3 cell sv hsv b4 b5 b6 b7 b8 b9 b10 b11 b12
      exact ⟨_, _, rfl, run, _, _, _, _, _, _, _, _, _, _, _, rfl, .inl rfl⟩
  have g0 := gIx_nth N (j := 0) (by decide) (by decide)
  have q0 : F_is_table [.str (nth NS 0)] = .ok .dat (.bool false) := rfl
  have q1 : F_is_table [.dict []] = .ok .dat (.bool true) := rfl
  have q2 : F_is_tree 186 [.int 0] = .ok .dat (.bool true) := rfl
  have b1 : gNotB (.bool false) (.bool false) = some (.dat, .bool false) := rfl
  have b2 : gIsB (.bool true) (.bool true) = some (.dat, .bool true) := rfl
  unfold F_law
  rw [runS_eq]; unfold b_law
  rw [show env0 13 [PyData.list (ns.map .int)] = [.dat (scr ns), .un, .un, .un, .un, .un, .un, .un, .un, .un, .un, .un, .un] from rfl]
  rw [sSeq_eq, k1, sq_nx, sSeq_eq, k2, sq_nx, sSeq_eq]
  rw [show sFor (iVal (eSl (eVar 0) (eI (eC (.int 2))) (eI (eC (.int 26))))) (bName 3) ((sSeq (sFrz 2 (sAsg 4 (eCall 3 (F_law_put_in 20) (aCons (eVar 2) (aCons (eBin gDiv (eVar 3) (eC (.int 3))) (aCons (eDat (eCall 2 F_law_odd (aCons (eVar 3) (aCons (eBin gIx (eVar 1) (eBin gMod (eVar 3) (eC (.int 14)))) aNil)))) aNil)))))) (sSeq (sAsg 5 (eFn gRepr (aCons (eVar 4) aNil))) (sSeq (sFrz 2 (sFrz 4 (sAsg 6 (eLst (aCons (eVar 2) (aCons (eVar 4) (aCons (eDat (eCall 2 F_law_odd (aCons (eBin gDiv (eVar 3) (eC (.int 21))) (aCons (eBin gIx (eVar 1) (eC (.int 3))) aNil)))) (aCons (eDat (eCall 2 F_law_text (aCons (eVar 3) (aCons (eBin gIx (eVar 1) (eBin gMod (eBin gDiv (eVar 3) (eC (.int 5))) (eC (.int 14)))) aNil)))) aNil)))))))) (sSeq (sFrz 6 (sFor (iVal (eVar 6)) (bName 7) (sSeq (sAsg 8 (eAnd (eIsT "dict" (eVar 7)) (eCall 1 (F_law_is_tree 20) (aCons (eVar 7) aNil)))) (sSeq (sAsg 8 (eAnd (eVar 8) (eFn gAll (aCons (eLC [11] (iVal (eVar 7)) (bName 11) eYes (eIsT "dict" (eBin gIx (eVar 7) (eVar 11)))) aNil)))) (sSeq (sAsg 9 (eLst (aCons (eDat (eCall 1 F_law_is_name (aCons (eVar 7) aNil))) (aCons (eDat (eCall 1 (F_law_is_tree 20) (aCons (eVar 7) aNil))) (aCons (eVar 8) aNil))))) (sSeq (sAsg 10 (eLst (aCons (eDat (eCall 1 F_is_name (aCons (eVar 7) aNil))) (aCons (eDat (eCall 1 (F_is_tree 186) (aCons (eVar 7) aNil))) (aCons (eDat (eCall 1 F_is_table (aCons (eVar 7) aNil))) aNil))))) (sFrz 10 (sIf (eOr (eBin gNe (eLC [12] (iVal (eVar 10)) (bName 12) (eNot (eIsT "bool" (eVar 12))) (eVar 12)) (eLst aNil)) (eBin gNe (eVar 10) (eVar 9))) (sRet (eC (.bool false))) sNil)))))))) (sIf (eBin gNe (eFn gRepr (aCons (eVar 4) aNil)) (eVar 5)) (sRet (eC (.bool false))) sNil)))))) = sFor (iVal (eSl (eVar 0) (eI (eC (.int 2))) (eI (eC (.int 26))))) (bName 3) bodyK from rfl, k3, sq_nx]
  simp [g0, q0, q1, q2, b1, b2]
end Vb
namespace Vb
open PySem PySem.Spec PyProof.Rows L2
theorem fx_of {h : Heap} {K : PySem.W.Frag} {mg : Str → Option Value} (X : K.In h) (G : h.Ns mainGlobals mg) (c : He.SaysD HeadX.fa HeadX.fn K) (e : HeadX.ex K = true) : Fx K mg where
  n_all := He.free_ok X G (c.fact 19 (f := .free "all") rfl)
  n_bool := He.free_ok X G (c.fact 20 (f := .free "bool") rfl)
  n_dict := He.free_ok X G (c.fact 21 (f := .free "dict") rfl)
  n_enumerate := He.free_ok X G (c.fact 22 (f := .free "enumerate") rfl)
  n_int := He.free_ok X G (c.fact 23 (f := .free "int") rfl)
  n_isinstance := He.free_ok X G (c.fact 24 (f := .free "isinstance") rfl)
  n_len := He.free_ok X G (c.fact 25 (f := .free "len") rfl)
  n_list := He.free_ok X G (c.fact 26 (f := .free "list") rfl)
  n_range := He.free_ok X G (c.fact 27 (f := .free "range") rfl)
  n_repr := He.free_ok X G (c.fact 28 (f := .free "repr") rfl)
  n_sorted := He.free_ok X G (c.fact 29 (f := .free "sorted") rfl)
  n_str := He.free_ok X G (c.fact 30 (f := .free "str") rfl)
  v_MOST_LETTERS := He.int_ok X G (c.fact 32 (f := .int "MOST_LETTERS" (8)) rfl)
  v_LETTERS := He.str_ok X G (c.fact 31 (f := .str "LETTERS" "abcdefghijklmnopqrstuvwxyz") rfl)
  d_is_whole := let ⟨fd, h⟩ := c.def_ 0 (d := HeadX.d3) rfl; ⟨_, fd, h, He.glo_ok X G (c.fact 0 (f := .glo "is_whole") rfl)⟩
  d_is_name := let ⟨fd, h⟩ := c.def_ 1 (d := HeadX.d4) rfl; ⟨_, fd, h, He.glo_ok X G (c.fact 1 (f := .glo "is_name") rfl)⟩
  d_is_tree := let ⟨fd, h⟩ := c.def_ 2 (d := HeadX.d5) rfl; ⟨_, fd, h, He.glo_ok X G (c.fact 2 (f := .glo "is_tree") rfl)⟩
  d_is_table := let ⟨fd, h⟩ := c.def_ 3 (d := HeadX.d6) rfl; ⟨_, fd, h, He.glo_ok X G (c.fact 3 (f := .glo "is_table") rfl)⟩
  d_law_cell_at := let ⟨fd, h⟩ := c.def_ 4 (d := HeadX.d8) rfl; ⟨_, fd, h, He.glo_ok X G (c.fact 4 (f := .glo "_law_cell_at") rfl)⟩
  d_law_mixed := let ⟨fd, h⟩ := c.def_ 5 (d := HeadX.d9) rfl; ⟨_, fd, h, He.glo_ok X G (c.fact 5 (f := .glo "_law_mixed") rfl)⟩
  d_law_name := let ⟨fd, h⟩ := c.def_ 6 (d := HeadX.d10) rfl; ⟨_, fd, h, He.glo_ok X G (c.fact 6 (f := .glo "_law_name") rfl)⟩
  d_law_names := let ⟨fd, h⟩ := c.def_ 7 (d := HeadX.d11) rfl; ⟨_, fd, h, He.glo_ok X G (c.fact 7 (f := .glo "_law_names") rfl)⟩
  d_law_number := let ⟨fd, h⟩ := c.def_ 8 (d := HeadX.d12) rfl; ⟨_, fd, h, He.glo_ok X G (c.fact 8 (f := .glo "_law_number") rfl)⟩
  d_law_table := let ⟨fd, h⟩ := c.def_ 9 (d := HeadX.d13) rfl; ⟨_, fd, h, He.glo_ok X G (c.fact 9 (f := .glo "_law_table") rfl)⟩
  d_law_house := let ⟨fd, h⟩ := c.def_ 10 (d := HeadX.d14) rfl; ⟨_, fd, h, He.glo_ok X G (c.fact 10 (f := .glo "_law_house") rfl)⟩
  d_law_copy := let ⟨fd, h⟩ := c.def_ 11 (d := HeadX.d15) rfl; ⟨_, fd, h, He.glo_ok X G (c.fact 11 (f := .glo "_law_copy") rfl)⟩
  d_law_same := let ⟨fd, h⟩ := c.def_ 12 (d := HeadX.d16) rfl; ⟨_, fd, h, He.glo_ok X G (c.fact 12 (f := .glo "_law_same") rfl)⟩
  d_law_odd := let ⟨fd, h⟩ := c.def_ 13 (d := HeadX.d17) rfl; ⟨_, fd, h, He.glo_ok X G (c.fact 13 (f := .glo "_law_odd") rfl)⟩
  d_law_is_name := let ⟨fd, h⟩ := c.def_ 14 (d := HeadX.d18) rfl; ⟨_, fd, h, He.glo_ok X G (c.fact 14 (f := .glo "_law_is_name") rfl)⟩
  d_law_is_tree := let ⟨fd, h⟩ := c.def_ 15 (d := HeadX.d19) rfl; ⟨_, fd, h, He.glo_ok X G (c.fact 15 (f := .glo "_law_is_tree") rfl)⟩
  d_law_put_in := let ⟨fd, h⟩ := c.def_ 16 (d := HeadX.d20) rfl; ⟨_, fd, h, He.glo_ok X G (c.fact 16 (f := .glo "_law_put_in") rfl)⟩
  d_law_text := let ⟨fd, h⟩ := c.def_ 17 (d := HeadX.d21) rfl; ⟨_, fd, h, He.glo_ok X G (c.fact 17 (f := .glo "_law_text") rfl)⟩
  d_law := let ⟨fd, h⟩ := c.def_ 18 (d := HeadX.d22) rfl; ⟨_, fd, h, He.glo_ok X G (c.fact 18 (f := .glo "law") rfl)⟩
end Vb
open PySem PySem.W PySem.Calls PyProof.Rows
theorem PySem.Challenge.cw_viewback_k01_names_and_trees_holds : PySem.Challenge.rw_viewback_k01_names_and_trees.Holds := by
  w_on; o_law
  refine HandSHeadRun.head_any (r := OpenLaw.row PySem.Challenge.rw_viewback_k01_names_and_trees) (q := view (OpenLaw.row PySem.Challenge.rw_viewback_k01_names_and_trees).prog [22]) (H := HeadX.hk) (ob := HeadX.ob) (M := 3000) (loose := HeadX.loose) (d := HandSHeadRun.topDef (OpenLaw.row PySem.Challenge.rw_viewback_k01_names_and_trees).prog 22) (kwd := []) HeadX.ob_eq
    (by kernel_rfl) (fun s => by kernel_rfl) HeadX.run (by kernel_rfl) (by kernel_rfl) (by kernel_rfl) (by rfl) (by first | assumption | decide +kernel) (by decide +kernel) ⟨rfl, rfl, rfl, rfl, rfl, by decide +kernel⟩ ?hw ?hc
  case hw => w_witness2
  case hc =>
    refine Vb.walk_ofV (l := PySem.Challenge.rw_viewback_k01_names_and_trees) (n := 63) (k := 189) (x := "_law_script") (ca := Vb.ca) (F := Vb.F_law) rfl (by decide) (by kernel_rfl) ⟨rfl, by decide, by decide⟩ ?F Vb.law_true
    intro w mg fa h Y G hmg0
    obtain ⟨K, KX, c, e⟩ := Y
    have hmg : mg ("law" : PySem.Str) = some (.ref fa) := by
      have e : (HandSHeadRun.topDef (OpenLaw.row PySem.Challenge.rw_viewback_k01_names_and_trees).prog 22).name = ("law" : PySem.Str) := by kernel_rfl
      rw [← e]
      exact hmg0
    have fx := Vb.fx_of KX G c e
    obtain ⟨f, fd, Fn, hm⟩ := fx.d_law
    rw [hmg] at hm
    cases hm
    exact ⟨K, fd, KX, fun s v => (L2.FunD.bindsA (ps := ["_law_script"]) Fn fun _ _ _ _ _ _ us hl => match us, hl with | [_], _ => rfl) s [v] rfl, fun base _ _ => Vb.fv_law fx Fn⟩
