import PyProof.Rows.All
import HandS.Lambda
import Wide.All
import OpenK.AllK
import Wide.FinOn
import KE.KStateDown
import Lean
import HandS.ForMost
import HandS.Exc
import HandS.ExcOwn
import HandS.WordsExc
import HandS.CallSlots
import HandS.TryMany
import HandS.Defaults
import HandS.IsInst
import HandS.StrMore
import HandS.Wide
import HandS.HeadHook1
import HandS.HeadHook2
import HandS.TupAny
import HandS.TupMul
import PyProof.StrOps2
import HandS.TupLe
import HandS.RaiseMore
import HandS.Style
import HandS.NoneIn
import HandS.Star
import HandS.Strs
import HandS.Head0
import HandS.Head1
import HandS.Head2
import HandS.HeadEnd
import KE.SortData
import KE.DataCmp
import HandS.SortInts
import HandS.Zip
import HandS.WideBits
import KE.SortKeyHeap
import HandS.SortKw
import HandS.EndTab
import HandS.HeadWalk
import KE.KNestM
import KE.DataMinKey
import PySem.Challenge.RW_configbench_k34_ranges
import HandS.Text
set_option Elab.async false
set_option linter.all false
set_option maxRecDepth 100000
/-! DL1: pure data D, the monad M, what a value stands for (Rep), the ghost state, steps. -/
namespace DL
open PySem PySem.Spec PyProof.Rows L2

/-- pure data -/
inductive D where
  | non | bl (b : Bool) | int (i : Int) | str (x : Str)
  | lst (xs : List D) | tup (xs : List D) | dct (kvs : List (D × D)) | set (xs : List D)
  | obj (c : Str) (fs : List (Str × D))
  | ref (n : Nat)
instance : Inhabited D := ⟨.non⟩
/-- the shared mutable cells -/
abbrev Sto := List D
inductive Res (α : Type) where
  | ok (a : α) (s : Sto) | ex (c : Str) (d : List (Str × D)) (s : Sto) | bad
def M (α : Type) := Sto → Res α
namespace M
def pur {α : Type} (a : α) : M α := fun s => .ok a s
def bnd {α β : Type} (m : M α) (k : α → M β) : M β := fun s => match m s with
  | .ok a s' => k a s'
  | .ex c d s' => .ex c d s'
  | .bad => .bad
def bad {α : Type} : M α := fun _ => .bad
def exc {α : Type} (c : Str) (d : List (Str × D)) : M α := fun s => .ex c d s
def guard (b : Bool) : M Unit := fun s => if b then .ok () s else .bad
end M
instance : Monad M where
  pure := M.pur
  bind := M.bnd
def Res.post {α : Type} (r : Res α) (ok : α → Sto → Prop) (ex : Str → List (Str × D) → Sto → Prop) : Prop := match r with
  | .ok a s => ok a s
  | .ex c d s => ex c d s
  | .bad => False
theorem post_bind {α β : Type} {m : M α} {k : α → M β} {s : Sto} {ok : β → Sto → Prop} {ex : Str → List (Str × D) → Sto → Prop} : ((m >>= k) s).post ok ex ↔ (m s).post (fun a s' => (k a s').post ok ex) ex := by
  show (M.bnd m k s).post ok ex ↔ _
  unfold M.bnd
  cases m s <;> exact Iff.rfl
theorem post_pure {α : Type} {a : α} {s : Sto} {ok : α → Sto → Prop} {ex : Str → List (Str × D) → Sto → Prop} : ((pure a : M α) s).post ok ex ↔ ok a s := Iff.rfl
theorem Res.post.imp {α : Type} {r : Res α} {ok ok' : α → Sto → Prop} {ex ex' : Str → List (Str × D) → Sto → Prop} (h : r.post ok ex) (h1 : ∀ a s, ok a s → ok' a s) (h2 : ∀ c d s, ex c d s → ex' c d s) : r.post ok' ex' := by
  cases r with
  | ok a s => exact h1 _ _ h
  | ex c d s => exact h2 _ _ _ h
  | bad => exact h

/-! ### what a value stands for -/
mutual
inductive Rep (K : PySem.W.Frag) (fi : List Addr) (H : Hp) : V → D → Prop
  | non : Rep K fi H .non .non
  | bl (b : Bool) : Rep K fi H (.bl b) (.bl b)
  | int (i : Int) : Rep K fi H (.int i) (.int i)
  | str (x : Str) : Rep K fi H (.str x) (.str x)
  | lst {a : Addr} {vs : List V} {ds : List D} : SqL K H a vs → RepL K fi H vs ds → Rep K fi H (.ref a) (.lst ds)
  | tup {a : Addr} {vs : List V} {ds : List D} : SqT K H a vs → RepL K fi H vs ds → Rep K fi H (.ref a) (.tup ds)
  | dct {a : Addr} {kvs : List (Key × V)} {es : List (D × D)} : H a = some (.dK kvs) → RepK K fi H kvs es → Rep K fi H (.ref a) (.dct es)
  | obj {a dx : Addr} {c : Str} {fs : List (Str × V)} {es : List (Str × D)} : H a = some (.ins (He.ga K c) dx fs) → RepF K fi H fs es → Rep K fi H (.ref a) (.obj c es)
  | ref {a : Addr} {n : Nat} : fi[n]? = some a → Rep K fi H (.ref a) (.ref n)
inductive RepL (K : PySem.W.Frag) (fi : List Addr) (H : Hp) : List V → List D → Prop
  | nil : RepL K fi H [] []
  | cons {v : V} {vs : List V} {d : D} {ds : List D} : Rep K fi H v d → RepL K fi H vs ds → RepL K fi H (v :: vs) (d :: ds)
inductive RepK (K : PySem.W.Frag) (fi : List Addr) (H : Hp) : List (Key × V) → List (D × D) → Prop
  | nil : RepK K fi H [] []
  | cons {k : Key} {v : V} {kvs : List (Key × V)} {e d : D} {es : List (D × D)} : Rep K fi H (kV k) e → Rep K fi H v d → RepK K fi H kvs es → RepK K fi H ((k, v) :: kvs) ((e, d) :: es)
inductive RepF (K : PySem.W.Frag) (fi : List Addr) (H : Hp) : List (Str × V) → List (Str × D) → Prop
  | nil : RepF K fi H [] []
  | cons {x : Str} {v : V} {fs : List (Str × V)} {d : D} {es : List (Str × D)} : Rep K fi H v d → RepF K fi H fs es → RepF K fi H ((x, v) :: fs) ((x, d) :: es)
end

/-- all of H stands in H' -/
def Sub (H H' : Hp) : Prop := ∀ a o, H a = some o → H' a = some o
theorem Sub.rfl {H : Hp} : Sub H H := fun _ _ h => h
theorem Sub.trans {H H' H'' : Hp} (a : Sub H H') (b : Sub H' H'') : Sub H H'' := fun x o h => b x o (a x o h)
def Pre (l l' : List Addr) : Prop := ∀ (n : Nat) (a : Addr), l[n]? = some a → l'[n]? = some a
theorem Pre.rfl {l : List Addr} : Pre l l := fun _ _ h => h
theorem Pre.trans {a b c : List Addr} (x : Pre a b) (y : Pre b c) : Pre a c := fun n z h => y n z (x n z h)
theorem Pre.mem {l l' : List Addr} (x : Pre l l') {a : Addr} (h : a ∈ l) : a ∈ l' := by
  obtain ⟨n, e⟩ := List.getElem?_of_mem h
  exact List.mem_of_getElem? (x n a e)
theorem Pre.app {l m : List Addr} : Pre l (l ++ m) := fun n a h => by
  rw [List.getElem?_append_left (List.getElem?_eq_some_iff.mp h).1]; exact h
section
variable {K : PySem.W.Frag} {fi fi' : List Addr} {H H' : Hp}
theorem SqL.sub {a : Addr} {xs : List V} (h : SqL K H a xs) (s : Sub H H') : SqL K H' a xs := by
  rcases h with (h | ⟨o, h⟩) | h
  · exact .inl (.inl (s _ _ h))
  · exact .inl (.inr ⟨o, s _ _ h⟩)
  · exact .inr h
theorem SqT.sub {a : Addr} {xs : List V} (h : SqT K H a xs) (s : Sub H H') : SqT K H' a xs := by
  rcases h with (h | ⟨o, h⟩) | h
  · exact .inl (.inl (s _ _ h))
  · exact .inl (.inr ⟨o, s _ _ h⟩)
  · exact .inr h
mutual
theorem Rep.mono (s : Sub H H') (p : Pre fi fi') {v : V} {d : D} : Rep K fi H v d → Rep K fi' H' v d
  | .non => .non
  | .bl b => .bl b
  | .int i => .int i
  | .str x => .str x
  | .lst h r => .lst (SqL.sub h s) (RepL.mono s p r)
  | .tup h r => .tup (SqT.sub h s) (RepL.mono s p r)
  | .dct h r => .dct (s _ _ h) (RepK.mono s p r)
  | .obj h r => .obj (s _ _ h) (RepF.mono s p r)
  | .ref h => .ref (p _ _ h)
theorem RepL.mono (s : Sub H H') (p : Pre fi fi') {vs : List V} {ds : List D} : RepL K fi H vs ds → RepL K fi' H' vs ds
  | .nil => .nil
  | .cons h r => .cons (Rep.mono s p h) (RepL.mono s p r)
theorem RepK.mono (s : Sub H H') (p : Pre fi fi') {vs : List (Key × V)} {ds : List (D × D)} : RepK K fi H vs ds → RepK K fi' H' vs ds
  | .nil => .nil
  | .cons h1 h r => .cons (Rep.mono s p h1) (Rep.mono s p h) (RepK.mono s p r)
theorem RepF.mono (s : Sub H H') (p : Pre fi fi') {vs : List (Str × V)} {ds : List (Str × D)} : RepF K fi H vs ds → RepF K fi' H' vs ds
  | .nil => .nil
  | .cons h r => .cons (Rep.mono s p h) (RepF.mono s p r)
end
theorem RepL.length : ∀ {vs : List V} {ds : List D}, RepL K fi H vs ds → vs.length = ds.length
  | _, _, .nil => rfl
  | _, _, .cons _ r => by simp [RepL.length r]
theorem RepL.app : ∀ {vs ws : List V} {ds es : List D}, RepL K fi H vs ds → RepL K fi H ws es → RepL K fi H (vs ++ ws) (ds ++ es)
  | _, _, _, _, .nil, s => s
  | _, _, _, _, .cons h r, s => .cons h (RepL.app r s)
theorem RepL.get : ∀ {vs : List V} {ds : List D} {i : Nat} {d : D}, RepL K fi H vs ds → ds[i]? = some d → ∃ v, vs[i]? = some v ∧ Rep K fi H v d
  | _, _, _, _, .nil, e => by simp at e
  | _, _, 0, _, .cons h r, e => by simp at e; subst e; exact ⟨_, rfl, h⟩
  | _, _, i + 1, _, .cons h r, e => by
    obtain ⟨v, e1, h1⟩ := RepL.get (i := i) r (by simpa using e)
    exact ⟨v, by simpa using e1, h1⟩
theorem RepL.getV : ∀ {vs : List V} {ds : List D} {i : Nat} {v : V}, RepL K fi H vs ds → vs[i]? = some v → ∃ d, ds[i]? = some d ∧ Rep K fi H v d
  | _, _, _, _, .nil, e => by simp at e
  | _, _, 0, _, .cons h r, e => by simp at e; subst e; exact ⟨_, rfl, h⟩
  | _, _, i + 1, _, .cons h r, e => by
    obtain ⟨v, e1, h1⟩ := RepL.getV (i := i) r (by simpa using e)
    exact ⟨v, by simpa using e1, h1⟩
theorem RepL.set {v : V} {d : D} (h : Rep K fi H v d) : ∀ {vs : List V} {ds : List D} (i : Nat), RepL K fi H vs ds → RepL K fi H (vs.set i v) (ds.set i d)
  | _, _, _, .nil => .nil
  | _, _, 0, .cons _ t => .cons h t
  | _, _, i + 1, .cons q t => .cons q (RepL.set h i t)
theorem RepL.take : ∀ {vs : List V} {ds : List D} (n : Nat), RepL K fi H vs ds → RepL K fi H (vs.take n) (ds.take n)
  | _, _, 0, _ => .nil
  | _, _, _ + 1, .nil => .nil
  | _, _, n + 1, .cons r t => .cons r (RepL.take n t)
theorem RepL.drop : ∀ {vs : List V} {ds : List D} (n : Nat), RepL K fi H vs ds → RepL K fi H (vs.drop n) (ds.drop n)
  | _, _, 0, r => r
  | _, _, _ + 1, .nil => .nil
  | _, _, n + 1, .cons _ t => RepL.drop n t
theorem RepL.eraseIdx : ∀ {vs : List V} {ds : List D} (i : Nat), RepL K fi H vs ds → RepL K fi H (vs.eraseIdx i) (ds.eraseIdx i)
  | _, _, _, .nil => .nil
  | _, _, 0, .cons _ t => t
  | _, _, i + 1, .cons q t => .cons q (RepL.eraseIdx i t)
theorem RepL.rev : ∀ {vs : List V} {ds : List D}, RepL K fi H vs ds → RepL K fi H vs.reverse ds.reverse
  | _, _, .nil => .nil
  | _, _, .cons h r => by
    simp only [List.reverse_cons]
    exact RepL.app (RepL.rev r) (.cons h .nil)
theorem RepL.ints : ∀ {vs : List V} {ns : List Int}, RepL K fi H vs (ns.map D.int) → vs = ns.map V.int
  | _, [], .nil => rfl
  | _, n :: ns, .cons h r => by
    cases h
    rw [RepL.ints r]; rfl
theorem RepL.strs : ∀ {vs : List V} {ns : List Str}, RepL K fi H vs (ns.map D.str) → vs = ns.map V.str
  | _, [], .nil => rfl
  | _, n :: ns, .cons h r => by
    cases h
    rw [RepL.strs r]; rfl
theorem RepL.bls : ∀ {vs : List V} {ns : List Bool}, RepL K fi H vs (ns.map D.bl) → vs = ns.map V.bl
  | _, [], .nil => rfl
  | _, n :: ns, .cons h r => by
    cases h
    rw [RepL.bls r]; rfl
theorem RepL.ofInts : ∀ {ns : List Int}, RepL K fi H (ns.map V.int) (ns.map D.int)
  | [] => .nil
  | n :: ns => .cons (.int n) RepL.ofInts
theorem RepL.ofStrs : ∀ {ns : List Str}, RepL K fi H (ns.map V.str) (ns.map D.str)
  | [] => .nil
  | n :: ns => .cons (.str n) RepL.ofStrs
end

/-! ### the ghost state -/
/-- hb: the immutable part; fi: where the shared cells stand -/
structure Gh where
  hb : Hp
  fi : List Addr
/-- at a stands a mutable thing with content d, its items immutable -/
def Own (K : PySem.W.Frag) (fi : List Addr) (hb H : Hp) (a : Addr) : D → Prop
  | .lst ds => ∃ vs, H a = some (.lst vs) ∧ RepL K fi hb vs ds
  | .dct es => ∃ kvs, H a = some (.dK kvs) ∧ RepK K fi hb kvs es
  | .obj c es => ∃ dx fs, H a = some (.ins (He.ga K c) dx fs) ∧ RepF K fi hb fs es
  | _ => False
theorem Own.mono {K : PySem.W.Frag} {fi fi' : List Addr} {hb hb' H H' : Hp} {a : Addr} {d : D} (h : Own K fi hb H a d) (s : Sub hb hb') (p : Pre fi fi') (e : ∀ o, H a = some o → H' a = some o) : Own K fi' hb' H' a d := by
  cases d with
  | lst ds => obtain ⟨vs, h1, r⟩ := h; exact ⟨vs, e _ h1, r.mono s p⟩
  | dct es => obtain ⟨vs, h1, r⟩ := h; exact ⟨vs, e _ h1, r.mono s p⟩
  | obj c es => obtain ⟨dx, vs, h1, r⟩ := h; exact ⟨dx, vs, e _ h1, r.mono s p⟩
  | _ => exact h.elim
theorem Own.there {K : PySem.W.Frag} {fi : List Addr} {hb H : Hp} {a : Addr} {d : D} (h : Own K fi hb H a d) : ∃ o, H a = some o := by
  cases d with
  | lst ds => obtain ⟨vs, h1, r⟩ := h; exact ⟨_, h1⟩
  | dct es => obtain ⟨vs, h1, r⟩ := h; exact ⟨_, h1⟩
  | obj c es => obtain ⟨dx, vs, h1, r⟩ := h; exact ⟨_, h1⟩
  | _ => exact h.elim
/-- the address of the table of code objects of the def x -/
def ta (K : PySem.W.Frag) (x : Str) : Addr := match K.lookup (He.ga K x) with
  | some ⟨_, _, .func fd, _⟩ => (match fd.code with
    | Value.ref c => (match K.lookup c with
      | some ⟨_, _, .fields vs, _⟩ => (match (vs[11]? : Option Value) with
        | some (Value.ref P) => P
        | _ => 0)
      | _ => 0)
    | _ => 0)
  | _ => 0
/-- the table of the def x, at a -/
def TabOk (K : PySem.W.Frag) (hb H : Hp) (a : Addr) (x : Str) : Prop := a = ta K x ∧ ∃ ps : Array Value, H a = some (.tbl ps) ∧ TriplesOk ps.toList ∧ ∀ (pos : Pos) (cv : Value), codeAmong pos ps.toList = some cv → ∃ c, cv = .ref c ∧ hb c = some (LamX.CodeO c (x ++ ".<locals>." ++ "<lambda>"))
/-- what stands in a shared cell: an own thing, or the table of a def's code objects -/
def Cel (K : PySem.W.Frag) (fi : List Addr) (hb H : Hp) (a : Addr) : D → Prop
  | .set [.str x] => TabOk K hb H a x
  | d => Own K fi hb H a d
theorem Cel.mono {K : PySem.W.Frag} {fi fi' : List Addr} {hb hb' H H' : Hp} {a : Addr} {d : D} (h : Cel K fi hb H a d) (s : Sub hb hb') (p : Pre fi fi') (e : ∀ o, H a = some o → H' a = some o) : Cel K fi' hb' H' a d := by
  unfold Cel at h ⊢
  split at h
  · obtain ⟨h1, ps, h2, h3, h4⟩ := h
    exact ⟨h1, ps, e _ h2, h3, fun pos cv hc => let ⟨c, e1, e2⟩ := h4 pos cv hc; ⟨c, e1, s _ _ e2⟩⟩
  · exact Own.mono h s p e
theorem Cel.there {K : PySem.W.Frag} {fi : List Addr} {hb H : Hp} {a : Addr} {d : D} (h : Cel K fi hb H a d) : ∃ u, H a = some u := by
  unfold Cel at h
  split at h
  · obtain ⟨h1, ps, h2, h3, h4⟩ := h
    exact ⟨_, h2⟩
  · exact Own.there h
theorem Own.cel {K : PySem.W.Frag} {fi : List Addr} {hb H : Hp} {a : Addr} {d : D} (h : Own K fi hb H a d) : Cel K fi hb H a d := by
  cases d <;> first | exact h | exact h.elim
structure SR (K : PySem.W.Frag) (H : Hp) (g : Gh) (sto : Sto) : Prop where
  sub : Sub g.hb H
  len : g.fi.length = sto.length
  nodup : g.fi.Nodup
  out : ∀ a ∈ g.fi, g.hb a = none
  cell : ∀ (n : Nat) (a : Addr) (d : D), g.fi[n]? = some a → sto[n]? = some d → Cel K g.fi g.hb H a d
/-- what may happen between two states -/
structure Step (H : Hp) (g : Gh) (H' : Hp) (g' : Gh) : Prop where
  hb : Sub g.hb g'.hb
  fi : Pre g.fi g'.fi
  frame : ∀ a o, H a = some o → a ∉ g.fi → H' a = some o
  live : ∀ a, H' a = none → H a = none
  newb : ∀ a, g.hb a = none → H a ≠ none → g'.hb a = none
  newf : ∀ a, a ∈ g'.fi → H a ≠ none → a ∈ g.fi
theorem Step.rfl {H : Hp} {g : Gh} : Step H g H g := ⟨.rfl, .rfl, fun _ _ h _ => h, fun _ h => h, fun _ h _ => h, fun _ h _ => h⟩
theorem Step.trans {H H1 H2 : Hp} {g g1 g2 : Gh} (a : Step H g H1 g1) (b : Step H1 g1 H2 g2) : Step H g H2 g2 where
  hb := a.hb.trans b.hb
  fi := a.fi.trans b.fi
  frame := fun x o h n => b.frame x o (a.frame x o h n) fun z => n (a.newf x z (by rw [h]; simp))
  live := fun x h => a.live x (b.live x h)
  newb := fun x h n => b.newb x (a.newb x h n) fun z => n (a.live x z)
  newf := fun x h n => a.newf x (b.newf x h fun z => n (a.live x z)) n
/-- a new immutable object -/
theorem Step.new {H : Hp} {g : Gh} {p : Addr} {o : HO} (hs : Sub g.hb H) (hp : H p = none) : Step H g (upd H p o) ⟨upd g.hb p o, g.fi⟩ where
  hb := fun a u h => by
    have e : a ≠ p := ne_of_none (hs _ _ h) hp
    show upd g.hb p o a = some u
    rw [upd_ne e]; exact h
  fi := .rfl
  frame := fun a u h _ => by rw [upd_ne (ne_of_none h hp)]; exact h
  live := fun a h => by
    by_cases e : a = p
    · rw [e]; exact hp
    · rw [upd_ne e] at h; exact h
  newb := fun a h n => by
    have : a ≠ p := fun e => n (by rw [e]; exact hp)
    show upd g.hb p o a = none
    rw [upd_ne this]; exact h
  newf := fun a h _ => h
end DL

set_option maxRecDepth 100000
set_option autoImplicit false
/-! DL2: environments, judgements, names, constants, operators by values. -/
namespace DL
open PySem PySem.Spec PyProof.Rows L2

abbrev SS := L2.St
/-- what a slot holds: an immutable value; a list (dict) of the def's own; an exception in its suite -/
inductive C where
  | val (d : D) | own (d : D) | exc (a : Addr) (dx : Option Addr) (fs : List (Str × D))
abbrev EnvD := List (Option C)
def XRep (K : PySem.W.Frag) (g : Gh) (H : Hp) (dx : Option Addr) (fs : List (Str × D)) : Prop := fs = [] ∨ ∃ p vs, dx = some p ∧ H p = some (.xd vs) ∧ p ∉ g.fi ∧ RepF K g.fi g.hb vs fs
structure EnvOk (K : PySem.W.Frag) (H : Hp) (g : Gh) (σ : SS) (env : EnvD) : Prop where
  len : env.length = σ.length
  val : ∀ (i : Nat) (d : D), env[i]? = some (some (.val d)) → ∃ v, σ[i]? = some (some v) ∧ Rep K g.fi g.hb v d
  own : ∀ (i : Nat) (d : D), env[i]? = some (some (.own d)) → ∃ a, σ[i]? = some (some (.ref a)) ∧ Own K g.fi g.hb H a d ∧ g.hb a = none ∧ a ∉ g.fi
  dis : ∀ (i j : Nat) (d e : D) (a : Addr), env[i]? = some (some (.own d)) → env[j]? = some (some (.own e)) → σ[i]? = some (some (.ref a)) → σ[j]? = some (some (.ref a)) → i = j
  exc : ∀ (i : Nat) (a : Addr) (dx : Option Addr) (fs : List (Str × D)), env[i]? = some (some (.exc a dx fs)) → σ[i]? = some (some (.ref a)) ∧ XRep K g H dx fs
theorem XRep.step {K : PySem.W.Frag} {H H' : Hp} {g g' : Gh} {dx : Option Addr} {fs : List (Str × D)} (x : XRep K g H dx fs) (st : Step H g H' g') : XRep K g' H' dx fs := by
  rcases x with x | ⟨p, vs, e, h, n, r⟩
  · exact .inl x
  · exact .inr ⟨p, vs, e, st.frame _ _ h n, fun z => n (st.newf p z (by rw [h]; simp)), r.mono st.hb st.fi⟩
theorem EnvOk.step {K : PySem.W.Frag} {H H' : Hp} {g g' : Gh} {σ : SS} {env : EnvD} (e : EnvOk K H g σ env) (st : Step H g H' g') : EnvOk K H' g' σ env where
  len := e.len
  val := fun i d h => let ⟨v, h1, r⟩ := e.val i d h; ⟨v, h1, r.mono st.hb st.fi⟩
  own := fun i d h => by
    obtain ⟨a, h1, o, nb, nf⟩ := e.own i d h
    obtain ⟨u, hu⟩ := o.there
    have hn : H a ≠ none := by rw [hu]; simp
    exact ⟨a, h1, o.mono st.hb st.fi fun o' h' => st.frame _ _ h' nf, st.newb a nb hn, fun z => nf (st.newf a z hn)⟩
  dis := e.dis
  exc := fun i a dx fs h => let ⟨h1, x⟩ := e.exc i a dx fs h; ⟨h1, x.step st⟩
/-- what may be read: immutable, or the def's own -/
def Bor (K : PySem.W.Frag) (g : Gh) (H : Hp) (v : V) (d : D) : Prop := Rep K g.fi g.hb v d ∨ ∃ a, v = .ref a ∧ Own K g.fi g.hb H a d ∧ g.hb a = none ∧ a ∉ g.fi
theorem Bor.step {K : PySem.W.Frag} {H H' : Hp} {g g' : Gh} {v : V} {d : D} (b : Bor K g H v d) (st : Step H g H' g') : Bor K g' H' v d := by
  rcases b with r | ⟨a, e, o, nb, nf⟩
  · exact .inl (r.mono st.hb st.fi)
  · obtain ⟨u, hu⟩ := o.there
    have hn : H a ≠ none := by rw [hu]; simp
    exact .inr ⟨a, e, o.mono st.hb st.fi fun o' h' => st.frame _ _ h' nf, st.newb a nb hn, fun z => nf (st.newf a z hn)⟩
inductive BorL (K : PySem.W.Frag) (g : Gh) (H : Hp) : List V → List D → Prop
  | nil : BorL K g H [] []
  | cons {v : V} {vs : List V} {d : D} {ds : List D} : Bor K g H v d → BorL K g H vs ds → BorL K g H (v :: vs) (d :: ds)
theorem BorL.step {K : PySem.W.Frag} {H H' : Hp} {g g' : Gh} {vs : List V} {ds : List D} (b : BorL K g H vs ds) (st : Step H g H' g') : BorL K g' H' vs ds := by
  induction b with
  | nil => exact .nil
  | cons h r ih => exact .cons (h.step st) ih

/-! ### the relations of ends -/
abbrev Rel (ω δ : Type) := Gh → Hp → ω → δ → Prop
abbrev RS (K : PySem.W.Frag) : Rel V D := fun g _ v d => Rep K g.fi g.hb v d
abbrev RB (K : PySem.W.Frag) : Rel V D := fun g H v d => Bor K g H v d
abbrev RSL (K : PySem.W.Frag) : Rel (List V) (List D) := fun g _ v d => RepL K g.fi g.hb v d
abbrev RBL (K : PySem.W.Frag) : Rel (List V) (List D) := fun g H v d => BorL K g H v d
abbrev RT : Rel Bool Bool := fun _ _ v d => v = d
def okP {ω δ : Type} (K : PySem.W.Frag) (Rl : Rel ω δ) (H : Hp) (g : Gh) (Q : ω → Hp → Prop) : δ → Sto → Prop := fun d s => ∀ w H' g', Step H g H' g' → SR K H' g' s → Rl g' H' w d → Q w H'
def exP (K : PySem.W.Frag) (H : Hp) (g : Gh) (W : Value → Option Addr → Hp → Prop) : Str → List (Str × D) → Sto → Prop := fun c fs s => ∀ H' g' dx, Step H g H' g' → SR K H' g' s → XRep K g' H' dx fs → W (.ref (He.ga K c)) dx H'
theorem okP.step {ω δ : Type} {K : PySem.W.Frag} {Rl : Rel ω δ} {H H1 : Hp} {g g1 : Gh} {Q : ω → Hp → Prop} {d : δ} {s : Sto} (h : okP K Rl H g Q d s) (st : Step H g H1 g1) : okP K Rl H1 g1 Q d s := fun w H' g' st' => h w H' g' (st.trans st')
theorem exP.step {K : PySem.W.Frag} {H H1 : Hp} {g g1 : Gh} {W : Value → Option Addr → Hp → Prop} {c : Str} {d : List (Str × D)} {s : Sto} (h : exP K H g W c d s) (st : Step H g H1 g1) : exP K H1 g1 W c d s := fun H' g' dx st' => h H' g' dx (st.trans st')
/-- m's end, from the state (H, g, s) -/
abbrev Mp {ω δ : Type} (K : PySem.W.Frag) (Rl : Rel ω δ) (m : M δ) (H : Hp) (g : Gh) (s : Sto) (Q : ω → Hp → Prop) (W : Value → Option Addr → Hp → Prop) : Prop := (m s).post (okP K Rl H g Q) (exP K H g W)
theorem Mp.step {ω δ : Type} {K : PySem.W.Frag} {Rl : Rel ω δ} {m : M δ} {H H1 : Hp} {g g1 : Gh} {s : Sto} {Q : ω → Hp → Prop} {W : Value → Option Addr → Hp → Prop} (h : Mp K Rl m H g s Q W) (st : Step H g H1 g1) : Mp K Rl m H1 g1 s Q W :=
  Res.post.imp h (fun _ _ x => x.step st) fun _ _ _ x => x.step st
def tX {ω δ : Type} (K : PySem.W.Frag) (W : WX) (env : EnvD) (Rl : Rel ω δ) (m : M δ) : SS → Hp → (ω → Hp → Prop) → Prop := fun σ H Q => ∃ g sto, SR K H g sto ∧ EnvOk K H g σ env ∧ Mp K Rl m H g sto Q (fun c dx H' => W c dx σ H')
theorem tX.mk {ω δ : Type} {K : PySem.W.Frag} {W : WX} {env : EnvD} {Rl : Rel ω δ} {m : M δ} {σ : SS} {H : Hp} {g : Gh} {s : Sto} {Q : ω → Hp → Prop} (sr : SR K H g s) (eo : EnvOk K H g σ env)
    (h : (m s).post (fun a s1 => ∀ w H1 g1, Step H g H1 g1 → SR K H1 g1 s1 → EnvOk K H1 g1 σ env → Rl g1 H1 w a → Q w H1) (exP K H g fun c dx H' => W c dx σ H')) : tX K W env Rl m σ H Q :=
  ⟨g, s, sr, eo, Res.post.imp h (fun _ _ x w H1 g1 st sr1 r => x w H1 g1 st sr1 (eo.step st) r) fun _ _ _ x => x⟩
/-- one step of a chain: first m, then k -/
theorem tX.bind {ω ω' δ δ' : Type} {K : PySem.W.Frag} {W : WX} {env : EnvD} {Rl : Rel ω δ} {Rl' : Rel ω' δ'} {m : M δ} {k : δ → M δ'} {σ : SS} {H : Hp} {g : Gh} {s : Sto} {Q' : ω' → Hp → Prop} {Q : ω → Hp → Prop} (sr : SR K H g s) (eo : EnvOk K H g σ env)
    (h : Mp K Rl' (m >>= k) H g s Q' fun c dx H' => W c dx σ H')
    (hq : ∀ a s1 w H1 g1, Step H g H1 g1 → SR K H1 g1 s1 → EnvOk K H1 g1 σ env → Rl g1 H1 w a → Mp K Rl' (k a) H1 g1 s1 Q' (fun c dx H' => W c dx σ H') → Q w H1) : tX K W env Rl m σ H Q := by
  refine tX.mk sr eo (Res.post.imp (post_bind.mp h) (fun a s1 x w H1 g1 st sr1 eo1 r => hq a s1 w H1 g1 st sr1 eo1 r ?_) fun _ _ _ x => x)
  exact Mp.step x st
theorem Mp.pure {ω δ : Type} {K : PySem.W.Frag} {Rl : Rel ω δ} {a : δ} {H : Hp} {g : Gh} {s : Sto} {Q : ω → Hp → Prop} {W : Value → Option Addr → Hp → Prop} (h : Mp K Rl (pure a) H g s Q W) {w : ω} (sr : SR K H g s) (r : Rl g H w a) : Q w H := h w H g .rfl sr r

/-! ### the judgements -/
abbrev JE (X : Cx) (W : WX) (env : EnvD) (e : Expr) (m : M D) : Prop := PE X e (tX X.K W env (RS X.K) m)
abbrev JB (X : Cx) (W : WX) (env : EnvD) (e : Expr) (m : M D) : Prop := PE X e (tX X.K W env (RB X.K) m)
abbrev JT (X : Cx) (W : WX) (env : EnvD) (e : Expr) (m : M Bool) : Prop := PT X e (tX X.K W env RT m)
abbrev JW (X : Cx) (W : WX) (env : EnvD) (e : Expr) (m : M Bool) : Prop := PW X e (tX X.K W env RT m)
abbrev JA (X : Cx) (W : WX) (env : EnvD) (es : List Expr) (m : M (List D)) : Prop := PA X es (tX X.K W env (RSL X.K) m)
abbrev JAb (X : Cx) (W : WX) (env : EnvD) (es : List Expr) (m : M (List D)) : Prop := PA X es (tX X.K W env (RBL X.K) m)
section
variable {X : Cx} {W : WX} {env : EnvD} {e : Expr} {m : M D}
theorem PE.imp {t t' : TE} (h : PE X e t) (i : ∀ σ H Q, t' σ H Q → t σ H Q) : PE X e t' := ⟨fun pins s σ H Q I q => h.run pins s σ H Q I (i σ H Q q)⟩
theorem PT.imp {t t' : TT} (h : PT X e t) (i : ∀ σ H Q, t' σ H Q → t σ H Q) : PT X e t' := ⟨fun pins s σ H Q I q => h.run pins s σ H Q I (i σ H Q q)⟩
theorem PW.imp {t t' : TT} (h : PW X e t) (i : ∀ σ H Q, t' σ H Q → t σ H Q) : PW X e t' := ⟨fun wh pins s σ H Q I q => h.run wh pins s σ H Q I (i σ H Q q)⟩
theorem PA.imp {es : List Expr} {t t' : TA} (h : PA X es t) (i : ∀ σ H Q, t' σ H Q → t σ H Q) : PA X es t' := ⟨fun pos pins s σ H Q I q => h.run pos pins s σ H Q I (i σ H Q q)⟩
theorem PS.imp {st : Stmt} {t t' : TS} (h : PS X st t) (i : ∀ D σ H, t' D σ H → t D σ H) : PS X st t' := ⟨fun pins s σ H D I q => h.run pins s σ H D I (i D σ H q)⟩
theorem PSs.imp {st : List Stmt} {t t' : TS} (h : PSs X st t) (i : ∀ D σ H, t' D σ H → t D σ H) : PSs X st t' := ⟨fun pins s σ H D I q => h.run pins s σ H D I (i D σ H q)⟩
/-- an immutable value may be read -/
theorem JE.b (h : JE X W env e m) : JB X W env e m := PE.imp h fun σ H Q ⟨g, s, sr, eo, q⟩ => ⟨g, s, sr, eo, Res.post.imp q (fun _ _ x w H1 g1 st sr1 r => x w H1 g1 st sr1 (.inl r)) fun _ _ _ x => x⟩
/-- a constant's reading -/
theorem je_const {v : V} {d : D} (h : PE X e (tC v)) (r : ∀ g : Gh, Rep X.K g.fi g.hb v d) : JE X W env e (pure d) := PE.imp h fun σ H Q ⟨g, s, sr, eo, q⟩ => Mp.pure q sr (r g)
theorem je_int {i : Int} {j pos} : JE X W env (.Constant (.int i) j pos) (pure (.int i)) := je_const pe_int fun _ => .int i
theorem je_bl {b : Bool} {j pos} : JE X W env (.Constant (.bool b) j pos) (pure (.bl b)) := je_const pe_bl fun _ => .bl b
theorem je_str {x : Str} {j pos} : JE X W env (.Constant (.str x) j pos) (pure (.str x)) := je_const pe_str fun _ => .str x
theorem je_non {j pos} : JE X W env (.Constant .none j pos) (pure .non) := je_const pe_non fun _ => .non
theorem je_name (i : Nat) {x : Str} {pos : Pos} {d : D} (he : env[i]? = some (some (.val d)) := by rfl) (hN : X.N[i]? = some x := by rfl) (hv : Vis X.env.scope x := by first | exact Or.inl rfl | exact Or.inr (Or.inl rfl) | exact Or.inr (Or.inr rfl))
    (hd : (x == ("__debug__" : Str)) = false := by decide) (hcd : (x == ("__classdict__" : Str)) = false := by decide) : JE X W env (.Name x pos) (pure d) :=
  PE.imp (pe_var hN hv hd hcd) fun σ H Q ⟨g, s, sr, eo, q⟩ => by
    obtain ⟨v, h1, r⟩ := eo.val i d he
    exact ⟨v, h1, Mp.pure q sr r⟩
theorem jb_own (i : Nat) {x : Str} {pos : Pos} {d : D} (he : env[i]? = some (some (.own d)) := by rfl) (hN : X.N[i]? = some x := by rfl) (hv : Vis X.env.scope x := by first | exact Or.inl rfl | exact Or.inr (Or.inl rfl) | exact Or.inr (Or.inr rfl))
    (hd : (x == ("__debug__" : Str)) = false := by decide) (hcd : (x == ("__classdict__" : Str)) = false := by decide) : JB X W env (.Name x pos) (pure d) :=
  PE.imp (pe_var hN hv hd hcd) fun σ H Q ⟨g, s, sr, eo, q⟩ => by
    obtain ⟨a, h1, o, nb, nf⟩ := eo.own i d he
    exact ⟨.ref a, h1, Mp.pure q sr (.inr ⟨a, rfl, o, nb, nf⟩)⟩
/-- a constant of the module -/
theorem je_gint {x : Str} {i : Int} {pos : Pos} (hg : Gl X x) (hm : ∃ t, X.mg x = some (.int i t)) (hd : (x == ("__debug__" : Str)) = false := by decide) : JE X W env (.Name x pos) (pure (.int i)) := by
  obtain ⟨t, ht⟩ := hm
  exact je_const (pe_glob (v := V.int i) hg ht ⟨t, rfl⟩ hd) fun _ => .int i
theorem je_gstr {x z : Str} {pos : Pos} (hg : Gl X x) (hm : ∃ t, X.mg x = some (.str z t)) (hd : (x == ("__debug__" : Str)) = false := by decide) : JE X W env (.Name x pos) (pure (.str z)) := by
  obtain ⟨t, ht⟩ := hm
  exact je_const (pe_glob (v := V.str z) hg ht ⟨t, rfl⟩ hd) fun _ => .str z

/-! ### tests -/
def truthB (d : D) : M Bool := match d with
  | .bl b => pure b
  | _ => M.bad
theorem jt_bool (h : JE X W env e m) (he : ∀ whole, isTrue e X.env whole = (do let v ← whole; standAt e.pos; holding [v] (truthy v)) := by intro _; rfl) : JT X W env e (m >>= truthB) :=
  PT.imp (pt_val h he) fun σ H Q ⟨g, s, sr, eo, q⟩ => tX.bind sr eo q fun d s1 v H1 g1 st sr1 eo1 r q1 => by
    cases d with
    | bl b => cases r; exact ⟨b, rfl, Mp.pure q1 sr1 rfl⟩
    | _ => exact q1.elim
theorem jt_not {m : M Bool} {pos : Pos} (h : JT X W env e m) : JT X W env (.UnaryOp .Not e pos) (m >>= fun b => pure (!b)) :=
  PT.imp (pt_not h) fun σ H Q ⟨g, s, sr, eo, q⟩ => tX.bind sr eo q fun d s1 v H1 g1 st sr1 eo1 r q1 => by
    cases r; exact Mp.pure q1 sr1 rfl
theorem jw_and1 {a : Expr} {m : M Bool} {pos : Pos} (h : JT X W env a m) : JW X W env (.BoolOp .And [a] pos) m := pw_and1 h
theorem jw_or1 {a : Expr} {m : M Bool} {pos : Pos} (h : JT X W env a m) : JW X W env (.BoolOp .Or [a] pos) m := pw_or1 h
theorem jw_and {a b : Expr} {rest : List Expr} {ma mb : M Bool} {pos : Pos} (ha : JT X W env a ma) (hb : JW X W env (.BoolOp .And (b :: rest) pos) mb) : JW X W env (.BoolOp .And (a :: b :: rest) pos) (ma >>= fun c => if c then mb else pure false) :=
  PW.imp (pw_and ha hb) fun σ H Q ⟨g, s, sr, eo, q⟩ => tX.bind sr eo q fun d s1 v H1 g1 st sr1 eo1 r q1 => by
    cases r
    cases d with
    | true => exact ⟨g1, s1, sr1, eo1, q1⟩
    | false => exact Mp.pure q1 sr1 rfl
theorem jw_or {a b : Expr} {rest : List Expr} {ma mb : M Bool} {pos : Pos} (ha : JT X W env a ma) (hb : JW X W env (.BoolOp .Or (b :: rest) pos) mb) : JW X W env (.BoolOp .Or (a :: b :: rest) pos) (ma >>= fun c => if c then pure true else mb) :=
  PW.imp (pw_or ha hb) fun σ H Q ⟨g, s, sr, eo, q⟩ => tX.bind sr eo q fun d s1 v H1 g1 st sr1 eo1 r q1 => by
    cases r
    cases d with
    | true => exact Mp.pure q1 sr1 rfl
    | false => exact ⟨g1, s1, sr1, eo1, q1⟩
theorem jt_w {m : M Bool} (h : JW X W env e m) : JT X W env e m := PW.pt h
/-! .. as values: all but the last True or False -/
theorem je_one {op} {pos : Pos} (h : JE X W env e m) : JE X W env (.BoolOp op [e] pos) m := pe_one h
theorem je_and {a b : Expr} {rest : List Expr} {ma mb : M D} {pos : Pos} (ha : JE X W env a ma) (hb : JE X W env (.BoolOp .And (b :: rest) pos) mb) : JE X W env (.BoolOp .And (a :: b :: rest) pos) (ma >>= fun d => truthB d >>= fun c => if c then mb else pure (D.bl false)) :=
  PE.imp (pe_and ha hb) fun σ H Q ⟨g, s, sr, eo, q⟩ => tX.bind sr eo q fun d s1 v H1 g1 st sr1 eo1 r q1 => by
    cases d with
    | bl b =>
      cases r
      refine ⟨b, rfl, ?_⟩
      cases b with
      | true => exact ⟨g1, s1, sr1, eo1, q1⟩
      | false => exact Mp.pure q1 sr1 (.bl false)
    | _ => exact q1.elim
theorem je_or {a b : Expr} {rest : List Expr} {ma mb : M D} {pos : Pos} (ha : JE X W env a ma) (hb : JE X W env (.BoolOp .Or (b :: rest) pos) mb) : JE X W env (.BoolOp .Or (a :: b :: rest) pos) (ma >>= fun d => truthB d >>= fun c => if c then pure (D.bl true) else mb) :=
  PE.imp (pe_or ha hb) fun σ H Q ⟨g, s, sr, eo, q⟩ => tX.bind sr eo q fun d s1 v H1 g1 st sr1 eo1 r q1 => by
    cases d with
    | bl b =>
      cases r
      refine ⟨b, rfl, ?_⟩
      cases b with
      | true => exact Mp.pure q1 sr1 (.bl true)
      | false => exact ⟨g1, s1, sr1, eo1, q1⟩
    | _ => exact q1.elim
theorem je_not {pos : Pos} (h : JE X W env e m) : JE X W env (.UnaryOp .Not e pos) (m >>= fun d => truthB d >>= fun c => pure (D.bl (!c))) :=
  PE.imp (pe_not h) fun σ H Q ⟨g, s, sr, eo, q⟩ => tX.bind sr eo q fun d s1 v H1 g1 st sr1 eo1 r q1 => by
    cases d with
    | bl b => cases r; exact ⟨b, rfl, Mp.pure q1 sr1 (.bl _)⟩
    | _ => exact q1.elim
theorem je_if {c a b : Expr} {mc : M Bool} {ma mb : M D} {pos : Pos} (hc : JT X W env c mc) (ha : JE X W env a ma) (hb : JE X W env b mb) : JE X W env (.IfExp c a b pos) (mc >>= fun t => if t then ma else mb) :=
  PE.imp (pe_ifExp hc ha hb) fun σ H Q ⟨g, s, sr, eo, q⟩ => tX.bind sr eo q fun d s1 v H1 g1 st sr1 eo1 r q1 => by
    cases r
    cases d with
    | true => exact ⟨g1, s1, sr1, eo1, q1⟩
    | false => exact ⟨g1, s1, sr1, eo1, q1⟩

/-! ### operators by values -/
/-- f does what g says, of what may be read -/
def OpD (X : Cx) (f : Value → Value → Sem Value) (g : D → D → M D) : Prop := OpR X f fun x y H Q => ∃ gh s d e, SR X.K H gh s ∧ Bor X.K gh H x d ∧ Bor X.K gh H y e ∧ Mp X.K (RS X.K) (g d e) H gh s Q fun _ _ _ => False
def NoEx {α : Type} (m : M α) : Prop := ∀ s c d s', m s ≠ .ex c d s'
theorem NoEx.mp {ω δ : Type} {K : PySem.W.Frag} {Rl : Rel ω δ} {m : M δ} {H : Hp} {g : Gh} {s : Sto} {Q : ω → Hp → Prop} {W W' : Value → Option Addr → Hp → Prop} (n : NoEx m) (h : Mp K Rl m H g s Q W) : Mp K Rl m H g s Q W' := by
  show (m s).post _ _
  have h' : (m s).post (okP K Rl H g Q) (exP K H g W) := h
  cases e : m s with
  | ok a s1 => rw [e] at h'; exact h'
  | ex c d s1 => exact absurd e (n s c d s1)
  | bad => rw [e] at h'; exact h'
theorem je_op {op : Operator} {f : D → D → M D} {a b : Expr} {ma mb : M D} {pos : Pos} (ho : OpD X (binaryOp op) f) (nx : ∀ d e, NoEx (f d e)) (ha : JB X W env a ma) (hb : JB X W env b mb) : JE X W env (.BinOp a op b pos) (ma >>= fun x => mb >>= fun y => f x y) :=
  PE.imp (pe_op ho ha hb) fun σ H Q ⟨g, s, sr, eo, q⟩ => tX.bind sr eo q fun d s1 v H1 g1 st sr1 eo1 r q1 => tX.bind sr1 eo1 q1 fun d' s2 v' H2 g2 st2 sr2 eo2 r' q2 =>
    ⟨g2, s2, d, d', sr2, r.step st2, r', (nx d d').mp q2⟩
theorem je_cmp {op : CmpOp} {f : D → D → M D} {a b : Expr} {ma mb : M D} {pos : Pos} (ho : OpD X (compareOp op) f) (nx : ∀ d e, NoEx (f d e)) (ha : JB X W env a ma) (hb : JB X W env b mb) (hm : behindInMarks op b = false) : JE X W env (.Compare a [op] [b] pos) (ma >>= fun x => mb >>= fun y => f x y) :=
  PE.imp (pe_cmpR ho ha hb hm) fun σ H Q ⟨g, s, sr, eo, q⟩ => tX.bind sr eo q fun d s1 v H1 g1 st sr1 eo1 r q1 => tX.bind sr1 eo1 q1 fun d' s2 v' H2 g2 st2 sr2 eo2 r' q2 =>
    ⟨g2, s2, d, d', sr2, r.step st2, r', (nx d d').mp q2⟩
theorem jt_cmp {op : CmpOp} {f : D → D → M D} {a b : Expr} {ma mb : M D} {pos : Pos} (ho : OpD X (compareOp op) f) (nx : ∀ d e, NoEx (f d e)) (ha : JB X W env a ma) (hb : JB X W env b mb) (hm : behindInMarks op b = false) : JT X W env (.Compare a [op] [b] pos) (ma >>= fun x => mb >>= fun y => f x y >>= truthB) :=
  PT.imp (pt_cmpR ho ha hb hm) fun σ H Q ⟨g, s, sr, eo, q⟩ => tX.bind sr eo q fun d s1 v H1 g1 st sr1 eo1 r q1 => tX.bind sr1 eo1 q1 fun d' s2 v' H2 g2 st2 sr2 eo2 r' q2 => by
    refine ⟨g2, s2, d, d', sr2, r.step st2, r', ?_⟩
    refine NoEx.mp (W := fun c dx H' => W c dx σ H') (nx d d') ?_
    refine Res.post.imp (post_bind.mp q2) (fun d3 s3 x w H3 g3 st3 sr3 r3 => ?_) fun _ _ _ x => x
    cases d3 with
    | bl b => cases r3; exact ⟨b, rfl, x b H3 g3 st3 sr3 rfl⟩
    | _ => exact x.elim
/-- a < b < c, b asked once -/
theorem je_chain {op op' : CmpOp} {f f' : D → D → M D} {a b c : Expr} {ma mb mc : M D} {pos : Pos} (ho : OpD X (compareOp op) f) (ho' : OpD X (compareOp op') f') (nx : ∀ d e, NoEx (f d e)) (nx' : ∀ d e, NoEx (f' d e)) (ha : JB X W env a ma) (hb : JB X W env b mb) (hc : JB X W env c mc)
    (hm : lastMarks [op, op'] [b, c] = false := by with_unfolding_all rfl) :
    JE X W env (.Compare a [op, op'] [b, c] pos) (ma >>= fun x => mb >>= fun y => f x y >>= fun r => truthB r >>= fun t => if t then mc >>= fun z => f' y z else pure (.bl false)) :=
  PE.imp (pe_chain ho ho' ha hb hc hm) fun σ H Q ⟨g, s, sr, eo, q⟩ => tX.bind sr eo q fun d s1 v H1 g1 st sr1 eo1 r q1 => tX.bind sr1 eo1 q1 fun d' s2 v' H2 g2 st2 sr2 eo2 r' q2 => by
    refine ⟨g2, s2, d, d', sr2, r.step st2, r', ?_⟩
    refine NoEx.mp (W := fun c dx H' => W c dx σ H') (nx d d') ?_
    refine Res.post.imp (post_bind.mp q2) (fun d3 s3 x w H3 g3 st3 sr3 r3 => ?_) fun _ _ _ x => x
    have x' := Mp.step (m := truthB d3 >>= fun t => if t then mc >>= fun z => f' d' z else pure (.bl false)) (Rl := RS X.K) x st3
    cases d3 with
    | bl b =>
      cases r3
      refine ⟨b, rfl, ?_⟩
      cases b with
      | true =>
        rw [if_pos rfl]
        refine tX.bind (k := fun z => f' d' z) (Rl' := RS X.K) (Q' := Q) sr3 (eo2.step st3) x' fun d4 s4 v4 H4 g4 st4 sr4 eo4 r4 q4 => ?_
        exact ⟨g4, s4, d', d4, sr4, (r'.step st3).step st4, r4, (nx' d' d4).mp q4⟩
      | false =>
        rw [if_neg Bool.false_ne_true]
        exact Mp.pure (Rl := RS X.K) x' sr3 (.bl false)
    | _ => exact x.elim
end
end DL

set_option maxRecDepth 100000
set_option autoImplicit false
/-! DL3: operators on D. -/
namespace L2
open PySem PySem.Spec PyProof.Rows
theorem int_rmul_list' (a : Int) (t : Tok) (l : Addr) (items : Array Value) (n : Nat) (dd : Option Addr) (sl : Array (Option Value)) :
    Meets (Builtin.«int.__rmul__» ⟨[.int a t, .ref l], []⟩) (fun _ R s => s.heap.get? l = some { cls := .type "list", dict := dd, data := .seq items n, slots := sl } ∧ R (.ok (.ret Value.notImplemented)) s) :=
  .of_wp fun prog w A R s h => by obtain ⟨hp, g, d, tk, os⟩ := s; obtain ⟨hl, h⟩ := h; wp_walk using wpAny_loadPart' hl; exact ⟨_, rfl, h⟩
theorem list_mulW' (l : Addr) (items : Array Value) (n : Nat) (dd : Option Addr) (sl : Array (Option Value)) (x : Int) (u : Tok) (hc0 : ¬(!Builtin.List.listFitsIndex x) = true) (hc1 : ¬items.size * x.toNat > (2 ^ 63 - 1) / 8) (hc2 : ¬Builtin.List.listTooLong (items.size * x.toNat) = true) :
    Meets (Builtin.«list.__mul__» ⟨[.ref l, .int x u], []⟩) (fun _ R s => s.heap.get? l = some { cls := .type "list", dict := dd, data := .seq items n, slots := sl } ∧ R (.ok (.ret (Value.ref s.heap.objs.size))) { s with heap := s.heap.push { cls := Value.type "list", data := Data.seq (List.foldl (fun x1 x2 => x1 ++ x2) #[] (List.replicate (if items.isEmpty = true then 0 else x.toNat) items)) }, toks := s.toks }) :=
  .of_wp fun prog w A R s h => by
    obtain ⟨hp, g, d, tk, os⟩ := s; obtain ⟨hl, h⟩ := h
    have hsz := PySem.AutoListH.joined_fits hc2
    have f1 := AutoSeq1.idx_int
    wp_walk using wpAny_loadPart' hl; refine wpAny_ite_false (decide_eq_false (Nat.not_lt.mpr hsz)) ?_; wp_walk using wpAny_loadPart' hl; exact ⟨_, rfl, h⟩
end L2
namespace DL
open PySem PySem.Spec PyProof.Rows L2

section
variable {K : PySem.W.Frag} {H : Hp} {g : Gh} {s : Sto}
theorem SR.new (sr : SR K H g s) {p : Addr} {o : HO} (hp : H p = none) : SR K (upd H p o) ⟨upd g.hb p o, g.fi⟩ s where
  sub := fun a u h => by
    have h' : upd g.hb p o a = some u := h
    by_cases e : a = p
    · subst e; rw [upd_same] at h'; rw [upd_same]; exact h'
    · rw [upd_ne e] at h'; rw [upd_ne e]; exact sr.sub _ _ h'
  len := sr.len
  nodup := sr.nodup
  out := fun a ha => by
    obtain ⟨n, e⟩ := List.getElem?_of_mem ha
    have hn : n < s.length := by rw [← sr.len]; exact (List.getElem?_eq_some_iff.mp e).1
    obtain ⟨u, hu⟩ := (sr.cell n a _ e (List.getElem?_eq_getElem hn)).there
    show upd g.hb p o a = none
    rw [upd_ne (ne_of_none hu hp)]
    exact sr.out a ha
  cell := fun n a d e1 e2 => by
    have q := sr.cell n a d e1 e2
    obtain ⟨u, hu⟩ := q.there
    exact q.mono (Step.new sr.sub hp).hb .rfl fun o' h' => by rw [upd_ne (ne_of_none hu hp)]; exact h'
theorem SR.hbn (sr : SR K H g s) {p : Addr} (hp : H p = none) : g.hb p = none := by
  cases e : g.hb p with
  | none => rfl
  | some o => rw [sr.sub _ _ e] at hp; cases hp
/-- a new list, a new tuple comes -/
theorem Mp.newL {ds : List D} {vs : List V} {Q : VK} {W : Value → Option Addr → Hp → Prop} (h : Mp (ω := V) K (RS K) (Pure.pure (D.lst ds) : M D) H g s Q W) (sr : SR K H g s) (r : RepL K g.fi g.hb vs ds) {p : Addr} (hp : H p = none) : Q (.ref p) (upd H p (.lst vs)) :=
  h (.ref p) _ ⟨upd g.hb p (.lst vs), g.fi⟩ (Step.new sr.sub hp) (sr.new hp) (.lst (SqL.of upd_same) (r.mono (Step.new (o := .lst vs) sr.sub hp).hb .rfl))
theorem Mp.newT {ds : List D} {vs : List V} {Q : VK} {W : Value → Option Addr → Hp → Prop} (h : Mp (ω := V) K (RS K) (Pure.pure (D.tup ds) : M D) H g s Q W) (sr : SR K H g s) (r : RepL K g.fi g.hb vs ds) {p : Addr} (hp : H p = none) : Q (.ref p) (upd H p (.tup vs)) :=
  h (.ref p) _ ⟨upd g.hb p (.tup vs), g.fi⟩ (Step.new sr.sub hp) (sr.new hp) (.tup (SqT.of upd_same) (r.mono (Step.new (o := .tup vs) sr.sub hp).hb .rfl))
/-! reading -/
theorem Bor.rd {v : V} {d : D} (b : Bor K g H v d) (sr : SR K H g s) : Rep K g.fi H v d := by
  rcases b with r | ⟨a, rfl, o, _, _⟩
  · exact r.mono sr.sub .rfl
  · cases d with
    | lst ds => obtain ⟨vs, h, r⟩ := o; exact .lst (SqL.of h) (r.mono sr.sub .rfl)
    | dct es => obtain ⟨vs, h, r⟩ := o; exact .dct h (r.mono sr.sub .rfl)
    | obj c es => obtain ⟨dx, vs, h, r⟩ := o; exact .obj h (r.mono sr.sub .rfl)
    | _ => exact o.elim
theorem Bor.lst {v : V} {ds : List D} (b : Bor K g H v (.lst ds)) (sr : SR K H g s) : ∃ a vs, v = .ref a ∧ SqL K H a vs ∧ RepL K g.fi g.hb vs ds := by
  rcases b with r | ⟨a, rfl, ⟨vs, h, r⟩, _, _⟩
  · cases r with
    | lst h r => exact ⟨_, _, rfl, SqL.sub h sr.sub, r⟩
  · exact ⟨a, vs, rfl, SqL.of h, r⟩
theorem Bor.tup {v : V} {ds : List D} (b : Bor K g H v (.tup ds)) (sr : SR K H g s) : ∃ a vs, v = .ref a ∧ SqT K H a vs ∧ RepL K g.fi g.hb vs ds := by
  rcases b with r | ⟨a, rfl, o, _, _⟩
  · cases r with
    | tup h r => exact ⟨_, _, rfl, SqT.sub h sr.sub, r⟩
  · exact o.elim
theorem Bor.dct {v : V} {es : List (D × D)} (b : Bor K g H v (.dct es)) (sr : SR K H g s) : ∃ a kvs, v = .ref a ∧ H a = some (.dK kvs) ∧ RepK K g.fi g.hb kvs es := by
  rcases b with r | ⟨a, rfl, ⟨vs, h, r⟩, _, _⟩
  · cases r with
    | dct h r => exact ⟨_, _, rfl, sr.sub _ _ h, r⟩
  · exact ⟨a, vs, rfl, h, r⟩
theorem Bor.int {v : V} {i : Int} (b : Bor K g H v (.int i)) : v = .int i := by
  rcases b with r | ⟨a, rfl, o, _, _⟩
  · cases r; rfl
  · exact o.elim
theorem Bor.str {v : V} {i : Str} (b : Bor K g H v (.str i)) : v = .str i := by
  rcases b with r | ⟨a, rfl, o, _, _⟩
  · cases r; rfl
  · exact o.elim
theorem Bor.bl {v : V} {i : Bool} (b : Bor K g H v (.bl i)) : v = .bl i := by
  rcases b with r | ⟨a, rfl, o, _, _⟩
  · cases r; rfl
  · exact o.elim
theorem Bor.non {v : V} (b : Bor K g H v .non) : v = .non := by
  rcases b with r | ⟨a, rfl, o, _, _⟩
  · cases r; rfl
  · exact o.elim
theorem Rep.non_iff {fi : List Addr} {v : V} {d : D} (r : Rep K fi H v d) : (v = .non) ↔ (d = .non) := by cases r <;> simp
end

/-! ### what the operators yield -/
namespace Op
def line : Nat := 16777216
def lenOk (n : Nat) : Bool := decide (n ≤ line)
def add : D → D → M D
  | .int i, .int j => pure (.int (i + j))
  | .str x, .str y => if lenOk (x.length + y.length) then pure (.str (x ++ y)) else M.bad
  | .lst xs, .lst ys => if lenOk (xs.length + ys.length) then pure (.lst (xs ++ ys)) else M.bad
  | .tup xs, .tup ys => if lenOk (xs.length + ys.length) then pure (.tup (xs ++ ys)) else M.bad
  | _, _ => M.bad
def sub : D → D → M D
  | .int i, .int j => pure (.int (i - j))
  | _, _ => M.bad
def mulOk (i j : Int) : Bool := decide (-(2 ^ 64) < i ∧ i < 2 ^ 64) || decide (-(2 ^ 64) < j ∧ j < 2 ^ 64)
def strRep (x : Str) (k : Nat) : Str := ⟨(List.replicate k x.cps).foldl (· ++ ·) #[]⟩
def mul : D → D → M D
  | .int i, .int j => if mulOk i j then pure (.int (i * j)) else M.bad
  | .lst xs, .int k => if decide (0 ≤ k ∧ k < 2 ^ 62) && lenOk (xs.length * k.toNat) then pure (.lst (List.replicate k.toNat xs).flatten) else M.bad
  | .tup xs, .int k => if decide (xs ≠ [] ∧ 2 ≤ k ∧ k ≤ 1000 ∧ xs.length ≤ 1000) then pure (.tup (List.replicate k.toNat xs).flatten) else M.bad
  | .str x, .int k => if decide (2 ≤ k ∧ k ≤ 1000 ∧ 0 < x.length ∧ x.length ≤ 1000) then pure (.str (strRep x k.toNat)) else M.bad
  | _, _ => M.bad
def mod : D → D → M D
  | .int i, .int j => if decide (0 < j) then pure (.int (i % j)) else M.bad
  | _, _ => M.bad
def fdiv : D → D → M D
  | .int i, .int j => if decide (0 < j ∧ j < 1073741824) then pure (.int (i / j)) else M.bad
  | _, _ => M.bad
def pow : D → D → M D
  | .int i, .int j => if decide (0 ≤ j ∧ j ≤ 1000000 ∧ i.natAbs < 2 ^ 64) then pure (.int (i ^ j.toNat)) else M.bad
  | _, _ => M.bad
def lt : D → D → M D
  | .int i, .int j => pure (.bl (decide (i < j)))
  | _, _ => M.bad
def le : D → D → M D
  | .int i, .int j => pure (.bl (decide (i ≤ j)))
  | _, _ => M.bad
def gt : D → D → M D
  | .int i, .int j => pure (.bl (decide (j < i)))
  | _, _ => M.bad
def ge : D → D → M D
  | .int i, .int j => pure (.bl (decide (j ≤ i)))
  | _, _ => M.bad
end Op
instance : DecidableEq Bool := inferInstance
theorem noEx_pure {α : Type} (a : α) : NoEx (pure a) := fun _ _ _ _ h => nomatch h
theorem noEx_bad {α : Type} : NoEx (M.bad : M α) := fun _ _ _ _ h => nomatch h
theorem noEx_ite {α : Type} {c : Prop} [Decidable c] {a b : M α} (h1 : NoEx a) (h2 : NoEx b) : NoEx (if c then a else b) := by
  split
  · exact h1
  · exact h2
theorem noEx_bind {α β : Type} {m : M α} {k : α → M β} (h1 : NoEx m) (h2 : ∀ a, NoEx (k a)) : NoEx (m >>= k) := fun s c d s' h => by
  have h' : M.bnd m k s = .ex c d s' := h
  unfold M.bnd at h'
  cases e : m s with
  | ok a s1 => rw [e] at h'; exact h2 a s1 c d s' h'
  | ex c1 d1 s1 => exact h1 s c1 d1 s1 e
  | bad => rw [e] at h'; cases h'
theorem nx_add (d e : D) : NoEx (Op.add d e) := by
  unfold Op.add; split <;> first | exact noEx_pure _ | exact noEx_bad | exact noEx_ite (noEx_pure _) noEx_bad
theorem nx_sub (d e : D) : NoEx (Op.sub d e) := by
  unfold Op.sub; split <;> first | exact noEx_pure _ | exact noEx_bad | exact noEx_ite (noEx_pure _) noEx_bad
theorem nx_mul (d e : D) : NoEx (Op.mul d e) := by
  unfold Op.mul; split <;> first | exact noEx_pure _ | exact noEx_bad | exact noEx_ite (noEx_pure _) noEx_bad
theorem nx_mod (d e : D) : NoEx (Op.mod d e) := by
  unfold Op.mod; split <;> first | exact noEx_pure _ | exact noEx_bad | exact noEx_ite (noEx_pure _) noEx_bad
theorem nx_fdiv (d e : D) : NoEx (Op.fdiv d e) := by
  unfold Op.fdiv; split <;> first | exact noEx_pure _ | exact noEx_bad | exact noEx_ite (noEx_pure _) noEx_bad
theorem nx_pow (d e : D) : NoEx (Op.pow d e) := by
  unfold Op.pow; split <;> first | exact noEx_pure _ | exact noEx_bad | exact noEx_ite (noEx_pure _) noEx_bad
theorem nx_lt (d e : D) : NoEx (Op.lt d e) := by
  unfold Op.lt; split <;> first | exact noEx_pure _ | exact noEx_bad | exact noEx_ite (noEx_pure _) noEx_bad
theorem nx_le (d e : D) : NoEx (Op.le d e) := by
  unfold Op.le; split <;> first | exact noEx_pure _ | exact noEx_bad | exact noEx_ite (noEx_pure _) noEx_bad
theorem nx_gt (d e : D) : NoEx (Op.gt d e) := by
  unfold Op.gt; split <;> first | exact noEx_pure _ | exact noEx_bad | exact noEx_ite (noEx_pure _) noEx_bad
theorem nx_ge (d e : D) : NoEx (Op.ge d e) := by
  unfold Op.ge; split <;> first | exact noEx_pure _ | exact noEx_bad | exact noEx_ite (noEx_pure _) noEx_bad
theorem Mp.ite {ω δ : Type} {K : PySem.W.Frag} {Rl : Rel ω δ} {c : Prop} [Decidable c] {m : M δ} {H : Hp} {g : Gh} {s : Sto} {Q : ω → Hp → Prop} {W : Value → Option Addr → Hp → Prop} (h : Mp K Rl (if c then m else M.bad) H g s Q W) : c ∧ Mp K Rl m H g s Q W := by
  by_cases e : c
  · rw [if_pos e] at h; exact ⟨e, h⟩
  · rw [if_neg e] at h; exact h.elim
theorem lenOk_le {n : Nat} (h : Op.lenOk n = true) : n ≤ sizeLine := by rw [sizeLine_eq]; exact of_decide_eq_true h

section
variable {X : Cx}
/-- a list that may be read, as an object of the heap -/
theorem seqObj {pins : List (Addr × Obj)} {σ : SS} {H : Hp} {s : Shared} {a : Addr} {xs : List V} (I : Inv X pins σ H s) (h : SqL X.K H a xs) : ∃ (us : List Value) (dd : Option Addr) (m : Nat) (slots : Array (Option Value)), Vals xs us ∧ s.heap.get? a = some { cls := .type "list", dict := dd, data := .seq us.toArray m, slots := slots } := by
  obtain ⟨us, rv, is, _⟩ := I.list h
  obtain ⟨ob, m, at_, k1, k2, k3⟩ := is
  obtain ⟨kc, kd, kt, ks⟩ := ob
  dsimp only at k1 k2 k3
  rw [k1, k3] at at_
  exact ⟨us, kd, m, ks, rv, at_⟩
/-- us, m times over, joined -/
theorem rep_arr (us : List Value) (m : Nat) : (List.replicate (if us.toArray.isEmpty = true then 0 else m) us.toArray).foldl (fun x1 x2 => x1 ++ x2) #[] = (List.replicate m us).flatten.toArray := by
  by_cases z : us = []
  · rw [z]; simp
  · have ne : ¬ us.toArray.isEmpty = true := by simpa using z
    have all := foldl_rep us m []
    rw [if_neg ne]
    simpa using all
/-- list + list, any that may be read -/
theorem op_catL : OpR X (binaryOp .Add) (fun x y H Q => ∃ l b xs zs, x = .ref l ∧ y = .ref b ∧ SqL X.K H l xs ∧ SqL X.K H b zs ∧ xs.length + zs.length ≤ sizeLine ∧ ∀ p, H p = none → Q (.ref p) (upd H p (.lst (xs ++ zs)))) := by
  rintro pins s σ H _ _ v u Q I rx ry ⟨l, b, xs, zs, rfl, rfl, ol, ob, le, fin⟩
  cases rx; cases ry
  obtain ⟨us, d1, m1, sl1, v1, g1⟩ := seqObj I ol
  obtain ⟨ws, d2, m2, sl2, v2, g2⟩ := seqObj I ob
  have room : us.toArray.size + ws.toArray.size ≤ sizeLine := by simpa [← v1.length, ← v2.length] using le
  have joined : us.toArray ++ ws.toArray = (us ++ ws).toArray := by simp
  have made : EP X pins σ Q (.ref s.heap.objs.size) { s with heap := s.heap.push { cls := .type "list", data := .seq (us ++ ws).toArray } } :=
    ⟨.ref _, _, I.lnew (t' := s.toks) (v1.append v2) (by simpa using le), rfl, fin _ I.fresh⟩
  refine concat_meets ⟨_, g1, rfl⟩ ⟨_, g2, rfl⟩ noFill_list_add seq_list_add PySem.F.slot_list_add PySem.F.entry_list_add (PySem.F.args_list_add_2 _ _) (list_addW l b _ _ m1 m2 _ _ sl1 sl2 room) ⟨g1, g2, ?_⟩
  rw [joined]
  exact made
/-- list * whole number -/
theorem op_repL : OpR X (binaryOp .Mult) (fun x y H Q => ∃ l k xs, x = .ref l ∧ y = .int k ∧ SqL X.K H l xs ∧ -(2 ^ 63) ≤ k ∧ k < 2 ^ 63 ∧ xs.length * k.toNat ≤ sizeLine ∧ ∀ p, H p = none → Q (.ref p) (upd H p (.lst (List.replicate k.toNat xs).flatten))) := by
  rintro pins s σ H _ _ v u Q I rx ry ⟨l, k, xs, rfl, rfl, ol, lo, up, le, fin⟩
  obtain ⟨t, rfl⟩ := ry
  cases rx
  obtain ⟨us, d1, m1, sl1, v1, g1⟩ := seqObj I ol
  have room : us.toArray.size * k.toNat ≤ sizeLine := by simpa [← v1.length] using le
  have c1 : ¬ (!Builtin.List.listFitsIndex k) = true := fun z => by rw [fitsIndex_both lo up] at z; cases z
  have c2 : ¬ us.toArray.size * k.toNat > (2 ^ 63 - 1) / 8 := fun z => by
    have : (sizeLine : Nat) ≤ (2 ^ 63 - 1) / 8 := by decide
    omega
  have c3 : ¬ Builtin.List.listTooLong (us.toArray.size * k.toNat) = true := fun z => by rw [notLongL room] at z; cases z
  have mul := list_mulW' l us.toArray m1 d1 sl1 k t c1 c2 c3
  rw [rep_arr] at mul
  have len : (List.replicate k.toNat xs).flatten.length ≤ sizeLine := by
    rw [PyProof.Rows.lm_len_rep_flat, Nat.mul_comm]; exact le
  refine wpAny_binaryOp_repeat_ref (T := "list") (U := "int") (by decide) ⟨_, g1, rfl⟩ (fun h => typeIs_int h k t) noFill_list_mul F.fills_int_mul F.slot_int_rmul repeat_list F.slot_int_index.lookup ?_
  refine call_meets F.slot_int_rmul (typeIs_int s k t) F.entry_int_rmul (F.args_int_rmul_2 _ _) (int_rmul_list' k t l us.toArray m1 d1 sl1) ⟨g1, rfl, ⟨_, g1, rfl⟩, ?_⟩
  exact call_meets F.slot_list_mul ⟨_, g1, rfl⟩ F.entry_list_mul (F.args_list_mul_2 _ _) mul ⟨g1, .ref _, _, I.lnew (t' := s.toks) (v1.rep k.toNat) len, rfl, fin _ I.fresh⟩
theorem RepL.rep {K : PySem.W.Frag} {fi : List Addr} {H : Hp} {vs : List V} {xs : List D} (r1 : RepL K fi H vs xs) : ∀ n : Nat, RepL K fi H (List.replicate n vs).flatten (List.replicate n xs).flatten := fun n => by
  induction n with
  | zero => exact .nil
  | succ n ih => simp only [List.replicate_succ, List.flatten_cons]; exact r1.app ih
theorem od_add : OpD X (binaryOp .Add) Op.add := by
  intro pins s σ H x y v u Q I rx ry ⟨g, st, d, e, sr, bx, by_, q⟩
  unfold Op.add at q
  split at q
  · rw [bx.int] at rx; rw [by_.int] at ry
    exact op_add pins s σ H _ _ v u Q I rx ry ⟨_, _, rfl, rfl, Mp.pure q sr (.int _)⟩
  · rw [bx.str] at rx; rw [by_.str] at ry
    obtain ⟨hl, q⟩ := q.ite
    exact op_add_str pins s σ H _ _ v u Q I rx ry ⟨_, _, rfl, rfl, lenOk_le hl, Mp.pure q sr (.str _)⟩
  · obtain ⟨a, vs, rfl, h1, r1⟩ := bx.lst sr
    obtain ⟨b, ws, rfl, h2, r2⟩ := by_.lst sr
    obtain ⟨hl, q⟩ := q.ite
    refine op_catL pins s σ H _ _ v u Q I rx ry ⟨_, _, _, _, rfl, rfl, h1, h2, by rw [r1.length, r2.length]; exact lenOk_le hl, fun p hp => ?_⟩
    exact Mp.newL q sr (r1.app r2) hp
  · obtain ⟨a, vs, rfl, h1, r1⟩ := bx.tup sr
    obtain ⟨b, ws, rfl, h2, r2⟩ := by_.tup sr
    obtain ⟨hl, q⟩ := q.ite
    refine op_catA pins s σ H _ _ v u Q I rx ry ⟨_, _, _, _, rfl, rfl, h1, h2, by rw [r1.length, r2.length]; exact lenOk_le hl, fun z => ?_, fun _ z => ?_, fun _ _ p hp => ?_⟩
    · subst z
      cases r1
      rcases by_ with r' | ⟨c, e, o, _⟩
      · exact Mp.pure q sr r'
      · exact o.elim
    · subst z
      cases r2
      rw [List.append_nil] at q
      rcases bx with r' | ⟨c, e, o, _⟩
      · exact Mp.pure q sr r'
      · exact o.elim
    · exact Mp.newT q sr (r1.app r2) hp
  · exact q.elim
theorem int2 {f : Value → Value → Sem Value} {g : D → D → M D} {r : R2} (ho : OpR X f r) (hg : ∀ d e, (∃ i j, d = .int i ∧ e = .int j) ∨ g d e = M.bad) (hr : ∀ (i j : Int) (H : Hp) (gh : Gh) (s : Sto) (Q : VK), SR X.K H gh s → Mp X.K (RS X.K) (g (.int i) (.int j)) H gh s Q (fun _ _ _ => False) → r (.int i) (.int j) H Q) : OpD X f g := by
  intro pins s σ H x y v u Q I rx ry ⟨gh, st, d, e, sr, bx, by_, q⟩
  rcases hg d e with ⟨i, j, rfl, rfl⟩ | z
  · rw [bx.int] at rx; rw [by_.int] at ry
    exact ho pins s σ H _ _ v u Q I rx ry (hr i j H gh st Q sr q)
  · rw [z] at q; exact q.elim
theorem od_sub : OpD X (binaryOp .Sub) Op.sub := int2 op_sub (fun d e => by unfold Op.sub; split <;> simp) fun i j H gh s Q sr q => ⟨_, _, rfl, rfl, Mp.pure q sr (.int _)⟩
theorem od_mod : OpD X (binaryOp .Mod) Op.mod := int2 op_mod (fun d e => by unfold Op.mod; split <;> simp) fun i j H gh s Q sr q => by
  obtain ⟨c, q⟩ := Mp.ite q
  exact ⟨_, _, rfl, rfl, of_decide_eq_true c, Mp.pure q sr (.int _)⟩
theorem od_fdiv : OpD X (binaryOp .FloorDiv) Op.fdiv := int2 op_fdiv (fun d e => by unfold Op.fdiv; split <;> simp) fun i j H gh s Q sr q => by
  obtain ⟨c, q⟩ := Mp.ite q
  have c' : 0 < j ∧ j < 1073741824 := of_decide_eq_true c
  exact ⟨_, _, rfl, rfl, c', Mp.pure q sr (.int _)⟩
theorem od_pow : OpD X (binaryOp .Pow) Op.pow := int2 op_pow (fun d e => by unfold Op.pow; split <;> simp) fun i j H gh s Q sr q => by
  obtain ⟨c, q⟩ := Mp.ite q
  have c' : 0 ≤ j ∧ j ≤ 1000000 ∧ i.natAbs < 2 ^ 64 := of_decide_eq_true c
  exact ⟨_, _, rfl, rfl, c', Mp.pure q sr (.int _)⟩
theorem od_lt : OpD X (compareOp .Lt) Op.lt := int2 op_lt (fun d e => by unfold Op.lt; split <;> simp) fun i j H gh s Q sr q => ⟨_, _, rfl, rfl, Mp.pure q sr (.bl _)⟩
theorem od_le : OpD X (compareOp .LtE) Op.le := int2 op_le (fun d e => by unfold Op.le; split <;> simp) fun i j H gh s Q sr q => ⟨_, _, rfl, rfl, Mp.pure q sr (.bl _)⟩
theorem od_gt : OpD X (compareOp .Gt) Op.gt := int2 op_gt (fun d e => by unfold Op.gt; split <;> simp) fun i j H gh s Q sr q => ⟨_, _, rfl, rfl, Mp.pure q sr (.bl _)⟩
theorem od_ge : OpD X (compareOp .GtE) Op.ge := int2 op_ge (fun d e => by unfold Op.ge; split <;> simp) fun i j H gh s Q sr q => ⟨_, _, rfl, rfl, Mp.pure q sr (.bl _)⟩
theorem rep_size (a : Array Nat) : ∀ (k : Nat) (acc : Array Nat), ((List.replicate k a).foldl (· ++ ·) acc).size = acc.size + k * a.size
  | 0, acc => by simp
  | k + 1, acc => by
    rw [List.replicate_succ, List.foldl_cons, rep_size a k, Array.size_append, Nat.succ_mul]
    omega
/-- text * whole number -/
theorem op_repS : OpR X (binaryOp .Mult) (fun x y H Q => ∃ i k, x = .str i ∧ y = .int k ∧ (2 ≤ k ∧ k ≤ 1000 ∧ 0 < i.length ∧ i.length ≤ 1000) ∧ Q (.str (Op.strRep i k.toNat)) H) := by
  rintro pins s σ H _ _ v u Q I rx ry ⟨i, k, rfl, rfl, ⟨c1, c2, c3, c4⟩, q⟩
  obtain ⟨t, rfl⟩ := rx
  obtain ⟨t', rfl⟩ := ry
  have h1 : (k == 1 || i.length == 0) = false := by
    rw [Bool.or_eq_false_iff]
    exact ⟨beq_eq_false_iff_ne.mpr (by omega), beq_eq_false_iff_ne.mpr (by omega)⟩
  have hm : i.length * k.toNat ≤ 1000 * 1000 := Nat.mul_le_mul c4 (by omega)
  have hs : (sizeLine : Nat) = 16777216 := sizeLine_eq
  refine P.mul_str (by rw [decide_eq_false (by omega), decide_eq_false (by omega)]; rfl) (fun _ _ => ?_) (fun _ _ => ?_) ?_
  · have : (1000 : Int) ≤ (2 ^ 63 - 1) / k := by
      rw [Int.le_ediv_iff_mul_le (by omega)]
      omega
    omega
  · exact decide_eq_false (by omega)
  · rw [if_neg (by omega), h1, if_neg Bool.false_ne_true]
    refine ⟨?_, ?_⟩
    · have : (Op.strRep i k.toNat).length ≤ sizeLine := by
        show ((List.replicate k.toNat i.cps).foldl (· ++ ·) #[]).size ≤ sizeLine
        rw [rep_size, Nat.mul_comm]
        have hm : i.cps.size * k.toNat ≤ 1000 * 1000 := hm
        simp only [Array.size_empty, Nat.zero_add]
        omega
      exact this
    · exact ⟨.str (Op.strRep i k.toNat), H, I.tok _, ⟨_, rfl⟩, q⟩
theorem od_mul : OpD X (binaryOp .Mult) Op.mul := by
  intro pins s σ H x y v u Q I rx ry ⟨g, st, d, e, sr, bx, by_, q⟩
  unfold Op.mul at q
  split at q
  · rw [bx.int] at rx; rw [by_.int] at ry
    obtain ⟨c, q⟩ := q.ite
    refine op_mul pins s σ H _ _ v u Q I rx ry ⟨_, _, rfl, rfl, ?_, Mp.pure q sr (.int _)⟩
    unfold Op.mulOk at c
    rcases Bool.or_eq_true_iff.mp c with z | z
    · exact .inl (of_decide_eq_true z)
    · exact .inr (of_decide_eq_true z)
  · rename_i xs k
    obtain ⟨a, vs, rfl, h1, r1⟩ := bx.lst sr
    rw [by_.int] at ry
    obtain ⟨c, q⟩ := q.ite
    obtain ⟨c1, c2⟩ := Bool.and_eq_true_iff.mp c
    have c1 := of_decide_eq_true c1
    refine op_repL pins s σ H _ _ v u Q I rx ry ⟨_, _, _, rfl, rfl, h1, by omega, by omega, by rw [r1.length]; exact lenOk_le c2, fun p hp => ?_⟩
    exact Mp.newL q sr (RepL.rep r1 _) hp
  · rename_i xs k
    obtain ⟨a, vs, rfl, h1, r1⟩ := bx.tup sr
    rw [by_.int] at ry
    obtain ⟨c, q⟩ := q.ite
    obtain ⟨c1, c2, c3, c4⟩ := of_decide_eq_true c
    refine op_repT pins s σ H _ _ v u Q I rx ry ⟨_, _, _, rfl, rfl, h1, ?_, c2, c3, by rw [r1.length]; exact c4, fun p hp => ?_⟩
    · intro z; subst z; cases r1; exact c1 rfl
    · exact Mp.newT q sr (RepL.rep r1 _) hp
  · rw [bx.str] at rx; rw [by_.int] at ry
    obtain ⟨c, q⟩ := q.ite
    exact op_repS pins s σ H _ _ v u Q I rx ry ⟨_, _, rfl, rfl, of_decide_eq_true c, Mp.pure q sr (.str _)⟩
  · exact q.elim

/-! ### == of data -/
end
mutual
def D.eqb : D → D → Bool
  | .non, .non => true
  | .bl a, .bl b => a == b
  | .bl a, .int j => (if a then 1 else 0) == j
  | .int i, .bl b => i == (if b then 1 else 0)
  | .int i, .int j => i == j
  | .str x, .str y => x == y
  | .lst xs, .lst ys => D.eqbL xs ys
  | .tup xs, .tup ys => D.eqbL xs ys
  | _, _ => false
def D.eqbL : List D → List D → Bool
  | [], [] => true
  | x :: xs, y :: ys => D.eqb x y && D.eqbL xs ys
  | _, _ => false
end
/-- none, bools, ints, texts, lists and tuples of these, at most n deep -/
def D.lay : Nat → D → Bool
  | _, .non => true
  | _, .bl _ => true
  | _, .int _ => true
  | _, .str _ => true
  | n + 1, .lst xs => xs.all (D.lay n)
  | n + 1, .tup xs => xs.all (D.lay n)
  | _, _ => false
def pairEqD (xs ys : List D) (j : Nat) : Bool := match xs[j]?, ys[j]? with
  | some x, some y => D.eqb x y
  | _, _ => false
theorem eqbL_len : ∀ {xs ys : List D}, xs.length ≠ ys.length → D.eqbL xs ys = false
  | [], [], h => absurd rfl h
  | [], _ :: _, _ => by simp [D.eqbL]
  | _ :: _, [], _ => by simp [D.eqbL]
  | x :: xs, y :: ys, h => by
    rw [D.eqbL, eqbL_len (fun z => h (by simp [z])), Bool.and_false]
theorem eqbL_all : ∀ {xs ys : List D}, xs.length = ys.length → (List.range xs.length).all (pairEqD xs ys) = D.eqbL xs ys
  | [], [], _ => by simp [D.eqbL]
  | [], _ :: _, h => by simp at h
  | _ :: _, [], h => by simp at h
  | x :: xs, y :: ys, h => by
    have h' : xs.length = ys.length := by simpa using h
    rw [D.eqbL, ← eqbL_all h', List.length_cons, List.range_succ_eq_map, List.all_cons, List.all_map]
    rfl
theorem eqbL_min (xs ys : List D) : ((List.range (min xs.length ys.length)).all (pairEqD xs ys) && xs.length == ys.length) = D.eqbL xs ys := by
  by_cases h : xs.length = ys.length
  · rw [← eqbL_all h, ← h, Nat.min_self, beq_self_eq_true, Bool.and_true]
  · rw [eqbL_len h, beq_eq_false_iff_ne.mpr h, Bool.and_false]
theorem eqb_refl : ∀ (n : Nat) (d : D), D.lay n d = true → D.eqb d d = true := by
  have hL : ∀ (n : Nat), (∀ d, D.lay n d = true → D.eqb d d = true) → ∀ xs : List D, xs.all (D.lay n) = true → D.eqbL xs xs = true := by
    intro n ih xs
    induction xs with
    | nil => intro _; simp [D.eqbL]
    | cons x xs ihx =>
      intro h
      obtain ⟨h1, h2⟩ := Bool.and_eq_true_iff.mp (show (D.lay n x && xs.all (D.lay n)) = true from h)
      rw [D.eqbL, ih x h1, ihx h2]; rfl
  intro n
  induction n with
  | zero => intro d h; cases d <;> first | (simp [D.eqb]; done) | (simp [D.lay] at h; done)
  | succ n ih =>
    intro d h
    cases d with
    | lst xs => rw [D.eqb]; exact hL n ih xs (by simpa [D.lay] using h)
    | tup xs => rw [D.eqb]; exact hL n ih xs (by simpa [D.lay] using h)
    | _ => first | (simp [D.eqb]; done) | (simp [D.lay] at h; done)
section
variable {X : Cx} {pins : List (Addr × Obj)} {σ : SS} {H : Hp} {s : Shared} {fi : List Addr}
theorem Rep.inj (I : Inv X pins σ H s) : ∀ (n : Nat) (d e : D) (v : V), D.lay n d = true → D.lay n e = true → Rep X.K fi H v d → Rep X.K fi H v e → d = e := by
  have hL : ∀ n, (∀ d e v, D.lay n d = true → D.lay n e = true → Rep X.K fi H v d → Rep X.K fi H v e → d = e) → ∀ (xs ys : List D) (vs : List V), xs.all (D.lay n) = true → ys.all (D.lay n) = true → RepL X.K fi H vs xs → RepL X.K fi H vs ys → xs = ys := by
    intro n ih xs
    induction xs with
    | nil => intro ys vs _ _ r1 r2; cases r1; cases r2; rfl
    | cons x xs ihx =>
      intro ys vs h1 h2 r1 r2
      cases r1 with
      | cons a r1 =>
        cases r2 with
        | cons b r2 =>
          obtain ⟨p1, p2⟩ := Bool.and_eq_true_iff.mp (show (D.lay n x && xs.all (D.lay n)) = true from h1)
          obtain ⟨q1, q2⟩ := Bool.and_eq_true_iff.mp h2
          rw [ih _ _ _ p1 q1 a b, ihx _ _ p2 q2 r1 r2]
  have no : ∀ {n : Nat} {a : Addr} {xs ys : List V}, SqL X.K H a xs → SqT X.K H a ys → False := fun h1 h2 => by
    obtain ⟨_, _, ⟨o, n, e, hc, _⟩, _⟩ := I.list h1
    obtain ⟨_, _, ⟨o', e', hc', _⟩, _⟩ := I.tuple h2
    rw [e] at e'; cases e'
    rw [hc] at hc'
    exact absurd (Value.type.inj hc') (by decide)
  intro n
  induction n with
  | zero => intro d e v h1 h2 r1 r2; cases r1 <;> first | (simp [D.lay] at h1; done) | (cases r2; rfl)
  | succ n ih =>
    intro d e v h1 h2 r1 r2
    cases r1 with
    | lst a r =>
      cases r2 with
      | lst b r' => rw [I.list_inj a b] at r; rw [hL n ih _ _ _ (by simpa [D.lay] using h1) (by simpa [D.lay] using h2) r r']
      | tup b r' => exact (no (n := 0) a b).elim
      | _ => simp [D.lay] at h2
    | tup a r =>
      cases r2 with
      | tup b r' => rw [I.tuple_inj a b] at r; rw [hL n ih _ _ _ (by simpa [D.lay] using h1) (by simpa [D.lay] using h2) r r']
      | lst b r' => exact (no (n := 0) b a).elim
      | _ => simp [D.lay] at h2
    | dct _ _ => simp [D.lay] at h1
    | obj _ _ => simp [D.lay] at h1
    | ref _ => simp [D.lay] at h1
    | _ => cases r2; rfl
theorem flat_eq {K : PySem.W.Frag} {H : Hp} {v : V} {d : D} (r : Rep K fi H v d) (h : D.lay 0 d = true) : flatV v = true := by
  cases r <;> first | rfl | (simp [D.lay] at h)
theorem flat_eqV {K : PySem.W.Frag} {H : Hp} {v w : V} {d e : D} (r : Rep K fi H v d) (r' : Rep K fi H w e) (h : D.lay 0 d = true) (h' : D.lay 0 e = true) : eqV v w = D.eqb d e := by
  cases r <;> first | (simp [D.lay] at h; done) | skip
  all_goals cases r' <;> first | (simp [D.lay] at h'; done) | (simp [eqV, D.eqb]; done)
open PySem.SeqAt in
theorem eqAtD (I : Inv X pins σ H s) : ∀ (n : Nat) (d e : D) (A : Around) (v w : V) (a b : Value), D.lay n d = true → D.lay n e = true → Rep X.K fi H v d → Rep X.K fi H w e → RelV v a → RelV w b → A.units + n + 1 < cLine → EqAt A s a b (D.eqb d e) := by
  intro n
  induction n with
  | zero =>
    intro d e A v w a b h1 h2 r1 r2 q1 q2 hu
    rw [← flat_eqV r1 r2 h1 h2]
    exact eqAt_V q1 q2 (flat_eq r1 h1) (flat_eq r2 h2)
  | succ n ih =>
    intro d e A v w a b h1 h2 r1 r2 q1 q2 hu
    have hu0 : A.units < cLine := by omega
    have hin : A.in1.units + n + 1 < cLine := by have : A.in1.units = A.units + 1 := rfl; omega
    have itm : ∀ {xs ys : List D} {vs ws : List V} {as bs : List Value}, xs.all (D.lay n) = true → ys.all (D.lay n) = true → RepL X.K fi H vs xs → RepL X.K fi H ws ys → Vals vs as → Vals ws bs →
        ∀ j (h1 : j < as.toArray.size) (h2 : j < bs.toArray.size), EqAt A.in1 s as.toArray[j] bs.toArray[j] (pairEqD xs ys j) := by
      intro xs ys vs ws as bs l1 l2 r1 r2 va vb j j1 j2
      have j1' : j < as.length := by simpa using j1
      have j2' : j < bs.length := by simpa using j2
      have jx : j < xs.length := by rw [← r1.length, va.length]; exact j1'
      have jy : j < ys.length := by rw [← r2.length, vb.length]; exact j2'
      obtain ⟨x1, e1, p1⟩ := r1.get (List.getElem?_eq_getElem jx)
      obtain ⟨x2, e2, p2⟩ := r2.get (List.getElem?_eq_getElem jy)
      obtain ⟨a1, f1, t1⟩ := va.get e1
      obtain ⟨a2, f2, t2⟩ := vb.get e2
      have g1 : as.toArray[j] = a1 := by
        have := List.getElem?_eq_getElem j1'
        rw [f1] at this
        simpa using (Option.some.inj this).symm
      have g2 : bs.toArray[j] = a2 := by
        have := List.getElem?_eq_getElem j2'
        rw [f2] at this
        simpa using (Option.some.inj this).symm
      have pe : pairEqD xs ys j = D.eqb xs[j] ys[j] := by
        unfold pairEqD
        rw [List.getElem?_eq_getElem jx, List.getElem?_eq_getElem jy]
      rw [g1, g2, pe]
      exact ih _ _ A.in1 x1 x2 a1 a2 (List.all_eq_true.mp l1 _ (List.getElem_mem jx)) (List.all_eq_true.mp l2 _ (List.getElem_mem jy)) p1 p2 t1 t2 hin
    have flatLeft : ∀ {v : V} {d : D}, Rep X.K fi H v d → D.lay 0 d = true → RelV v a → EqAt A s a b (D.eqb d e) := by
      intro v d r0 h0 q0
      by_cases h2' : D.lay 0 e = true
      · rw [← flat_eqV r0 r2 h0 h2']
        exact eqAt_V q0 q2 (flat_eq r0 h0) (flat_eq r2 h2')
      · cases r2 with
        | lst hb rb =>
          cases q2
          obtain ⟨its2, rv2, pl2, hz2⟩ := I.list hb
          cases r0 with
          | non => cases q0; exact EqAt.none_list pl2.isList hu0
          | bl b => cases q0; exact EqAt.bool_list _ pl2.isList hu0
          | int i => obtain ⟨t, rfl⟩ := q0; exact EqAt.int_list _ _ pl2.isList hu0
          | str x => obtain ⟨t, rfl⟩ := q0; exact EqAt.str_list _ _ pl2.isList hu0
          | _ => simp [D.lay] at h0
        | tup hb rb =>
          cases q2
          obtain ⟨its2, rv2, pl2, hz2⟩ := I.tuple hb
          have pl' : s.heap.IsTuple _ its2.toArray := pl2
          cases r0 with
          | non => cases q0; exact EqAt.none_tuple pl' hu0
          | bl b => cases q0; exact EqAt.bool_tuple _ pl' hu0
          | int i => obtain ⟨t, rfl⟩ := q0; exact EqAt.int_tuple _ _ pl' hu0
          | str x => obtain ⟨t, rfl⟩ := q0; exact EqAt.str_tuple _ _ pl' hu0
          | _ => simp [D.lay] at h0
        | _ => first | (simp [D.lay] at h2'; done) | (simp [D.lay] at h2; done)
    cases r1 with
    | lst ha ra =>
      cases q1
      obtain ⟨its, rv, pl, hz⟩ := I.list ha
      have l1 := by simpa [D.lay] using h1
      cases r2 with
      | lst hb rb =>
        cases q2
        obtain ⟨its2, rv2, pl2, hz2⟩ := I.list hb
        have l2 := by simpa [D.lay] using h2
        rename_i al vl dl al2 vl2 dl2
        by_cases hll : al = al2
        · subst hll
          have e := Rep.inj I (n + 1) _ _ _ h1 h2 (.lst ha ra) (.lst hb rb)
          rw [e, eqb_refl _ _ h2]
          exact EqAt.same _
        · have n1 : its.toArray.size = dl.length := by rw [List.size_toArray, ← rv.length, ra.length]
          have n2 : its2.toArray.size = dl2.length := by rw [List.size_toArray, ← rv2.length, rb.length]
          rw [D.eqb]
          by_cases hsz : dl.length = dl2.length
          · rw [← eqbL_all hsz, ← n1]
            exact EqAt.of_refs hll (RcAt.lists pl.isList pl2.isList (by omega) hu0 (itm (by simpa [List.all_eq_true] using l1) (by simpa [List.all_eq_true] using l2) ra rb rv rv2))
          · rw [eqbL_len hsz]
            exact EqAt.of_refs hll (RcAt.lists_lengths pl.isList pl2.isList (by simp only [bne_iff_ne, ne_eq]; omega) hu0)
      | tup hb rb =>
        cases q2
        obtain ⟨its2, rv2, pl2, hz2⟩ := I.tuple hb
        exact EqAt.list_tuple pl.isList (show s.heap.IsTuple _ _ from pl2) hu0
      | non => cases q2; exact EqAt.list_none pl.isList hu0
      | bl b => cases q2; exact EqAt.list_bool b pl.isList hu0
      | int i => obtain ⟨t, rfl⟩ := q2; exact EqAt.list_int i t pl.isList hu0
      | str x => obtain ⟨t, rfl⟩ := q2; exact EqAt.list_str x t pl.isList hu0
      | _ => simp [D.lay] at h2
    | tup ha ra =>
      cases q1
      obtain ⟨its, rv, pl, hz⟩ := I.tuple ha
      have pl' : s.heap.IsTuple _ its.toArray := pl
      have l1 := by simpa [D.lay] using h1
      cases r2 with
      | tup hb rb =>
        cases q2
        obtain ⟨its2, rv2, pl2, hz2⟩ := I.tuple hb
        have l2 := by simpa [D.lay] using h2
        rename_i al vl dl al2 vl2 dl2
        by_cases hll : al = al2
        · subst hll
          have e := Rep.inj I (n + 1) _ _ _ h1 h2 (.tup ha ra) (.tup hb rb)
          rw [e, eqb_refl _ _ h2]
          exact EqAt.same _
        · have n1 : its.toArray.size = dl.length := by rw [List.size_toArray, ← rv.length, ra.length]
          have n2 : its2.toArray.size = dl2.length := by rw [List.size_toArray, ← rv2.length, rb.length]
          rw [D.eqb, ← eqbL_min, ← n1, ← n2]
          exact EqAt.of_refs hll (RcAt.tuples pl' (show s.heap.IsTuple _ its2.toArray from pl2) hu0 (itm (by simpa [List.all_eq_true] using l1) (by simpa [List.all_eq_true] using l2) ra rb rv rv2))
      | lst hb rb =>
        cases q2
        obtain ⟨its2, rv2, pl2, hz2⟩ := I.list hb
        exact EqAt.tuple_list pl' pl2.isList hu0
      | non => cases q2; exact EqAt.tuple_none pl' hu0
      | bl b => cases q2; exact EqAt.tuple_bool b pl' hu0
      | int i => obtain ⟨t, rfl⟩ := q2; exact EqAt.tuple_int i t pl' hu0
      | str x => obtain ⟨t, rfl⟩ := q2; exact EqAt.tuple_str x t pl' hu0
      | _ => simp [D.lay] at h2
    | dct _ _ => simp [D.lay] at h1
    | obj _ _ => simp [D.lay] at h1
    | ref _ => simp [D.lay] at h1
    | non => exact flatLeft .non rfl q1
    | bl b => exact flatLeft (.bl b) rfl q1
    | int i => exact flatLeft (.int i) rfl q1
    | str x => exact flatLeft (.str x) rfl q1
end
end DL

set_option maxRecDepth 100000
set_option autoImplicit false
/-! DL4: ==, in, is, places, slices, displays, built-in calls. -/
namespace DL
open PySem PySem.Spec PyProof.Rows L2
namespace Op
def eq (d e : D) : M D := if D.lay 40 d && D.lay 40 e then pure (.bl (D.eqb d e)) else M.bad
def ne (d e : D) : M D := if D.lay 40 d && D.lay 40 e then pure (.bl (!D.eqb d e)) else M.bad
def strIn (x y : Str) : Bool := !(Builtin.Str.occurrences y x 0 y.length 1).isEmpty
def isIn0 (x c : D) : Option Bool := match c with
  | .lst ys => if D.lay 40 x && ys.all (D.lay 40) then some (ys.any fun y => D.eqb y x) else none
  | .tup ys => if D.lay 40 x && ys.all (D.lay 40) then some (ys.any fun y => D.eqb y x) else none
  | .str y => match x with
    | .str z => some (strIn z y)
    | _ => none
  | _ => none
def isIn (x c : D) : M D := match isIn0 x c with
  | some b => pure (.bl b)
  | none => M.bad
def notIn (x c : D) : M D := match isIn0 x c with
  | some b => pure (.bl (!b))
  | none => M.bad
def isNon : D → Bool
  | .non => true
  | _ => false
def isBl : D → D → M D
  | .bl a, .bl b => pure (.bl (decide (a = b)))
  | _, _ => M.bad
end Op
theorem nx_eq (d e : D) : NoEx (Op.eq d e) := noEx_ite (noEx_pure _) noEx_bad
theorem nx_ne (d e : D) : NoEx (Op.ne d e) := noEx_ite (noEx_pure _) noEx_bad
theorem nx_isIn (d e : D) : NoEx (Op.isIn d e) := by unfold Op.isIn; split; exact noEx_pure _; exact noEx_bad
theorem nx_notIn (d e : D) : NoEx (Op.notIn d e) := by unfold Op.notIn; split; exact noEx_pure _; exact noEx_bad
theorem nx_isBl (d e : D) : NoEx (Op.isBl d e) := by unfold Op.isBl; split; exact noEx_pure _; exact noEx_bad
section
variable {X : Cx} {pins : List (Addr × Obj)} {σ : SS} {H : Hp} {s : Shared} {fi : List Addr}
open PySem.SeqAt in
theorem rcAtD (I : Inv X pins σ H s) {n : Nat} {d e : D} {A : Around} {v w : V} {a b : Value} (h1 : D.lay n d = true) (h2 : D.lay n e = true) (r1 : Rep X.K fi H v d) (r2 : Rep X.K fi H w e) (q1 : RelV v a) (q2 : RelV w b) (hu : A.units + n + 2 < cLine) : RcAt A s a b (D.eqb d e) := by
  have hu0 : A.units < cLine := by omega
  have itm : ∀ {m : Nat} {xs ys : List D} {vs ws : List V} {as bs : List Value}, A.in1.units + m + 1 < cLine → xs.all (D.lay m) = true → ys.all (D.lay m) = true → RepL X.K fi H vs xs → RepL X.K fi H ws ys → Vals vs as → Vals ws bs →
      ∀ j (h1 : j < as.toArray.size) (h2 : j < bs.toArray.size), EqAt A.in1 s as.toArray[j] bs.toArray[j] (pairEqD xs ys j) := by
    intro m xs ys vs ws as bs hin l1 l2 r1 r2 va vb j j1 j2
    have j1' : j < as.length := by simpa using j1
    have j2' : j < bs.length := by simpa using j2
    have jx : j < xs.length := by rw [← r1.length, va.length]; exact j1'
    have jy : j < ys.length := by rw [← r2.length, vb.length]; exact j2'
    obtain ⟨x1, e1, p1⟩ := r1.get (List.getElem?_eq_getElem jx)
    obtain ⟨x2, e2, p2⟩ := r2.get (List.getElem?_eq_getElem jy)
    obtain ⟨a1, f1, t1⟩ := va.get e1
    obtain ⟨a2, f2, t2⟩ := vb.get e2
    have g1 : as.toArray[j] = a1 := by
      have := List.getElem?_eq_getElem j1'
      rw [f1] at this
      simpa using (Option.some.inj this).symm
    have g2 : bs.toArray[j] = a2 := by
      have := List.getElem?_eq_getElem j2'
      rw [f2] at this
      simpa using (Option.some.inj this).symm
    have pe : pairEqD xs ys j = D.eqb xs[j] ys[j] := by
      unfold pairEqD
      rw [List.getElem?_eq_getElem jx, List.getElem?_eq_getElem jy]
    rw [g1, g2, pe]
    exact eqAtD I m _ _ A.in1 x1 x2 a1 a2 (List.all_eq_true.mp l1 _ (List.getElem_mem jx)) (List.all_eq_true.mp l2 _ (List.getElem_mem jy)) p1 p2 t1 t2 hin
  have key : ∀ (n : Nat), A.units + n + 2 < cLine → D.lay (n + 1) d = true → D.lay (n + 1) e = true → RcAt A s a b (D.eqb d e) := by
    intro n hu h1 h2
    have hin : A.in1.units + n + 1 < cLine := by have : A.in1.units = A.units + 1 := rfl; omega
    cases r1 with
    | @lst al vl dl ha ra =>
      cases q1
      obtain ⟨its, rv, pl, hz⟩ := I.list ha
      have l1 : dl.all (D.lay n) = true := h1
      cases r2 with
      | @lst al2 vl2 dl2 hb rb =>
        cases q2
        obtain ⟨its2, rv2, pl2, hz2⟩ := I.list hb
        have l2 : dl2.all (D.lay n) = true := h2
        have n1 : its.toArray.size = dl.length := by rw [List.size_toArray, ← rv.length, ra.length]
        have n2 : its2.toArray.size = dl2.length := by rw [List.size_toArray, ← rv2.length, rb.length]
        rw [D.eqb]
        by_cases hsz : dl.length = dl2.length
        · rw [← eqbL_all hsz, ← n1]
          exact RcAt.lists pl.isList pl2.isList (by omega) hu0 (itm hin l1 l2 ra rb rv rv2)
        · rw [eqbL_len hsz]
          exact RcAt.lists_lengths pl.isList pl2.isList (by simp only [bne_iff_ne, ne_eq]; omega) hu0
      | tup hb rb =>
        cases q2
        obtain ⟨its2, rv2, pl2, hz2⟩ := I.tuple hb
        exact RcAt.list_tuple pl.isList (show s.heap.IsTuple _ _ from pl2) hu0
      | non => cases q2; exact RcAt.list_none pl.isList hu0
      | bl b => cases q2; exact RcAt.list_bool b pl.isList hu0
      | int i => obtain ⟨t, rfl⟩ := q2; exact RcAt.list_int i t pl.isList hu0
      | str x => obtain ⟨t, rfl⟩ := q2; exact RcAt.list_str x t pl.isList hu0
      | _ => simp [D.lay] at h2
    | @tup al vl dl ha ra =>
      cases q1
      obtain ⟨its, rv, pl, hz⟩ := I.tuple ha
      have pl' : s.heap.IsTuple _ its.toArray := pl
      have l1 : dl.all (D.lay n) = true := h1
      cases r2 with
      | @tup al2 vl2 dl2 hb rb =>
        cases q2
        obtain ⟨its2, rv2, pl2, hz2⟩ := I.tuple hb
        have l2 : dl2.all (D.lay n) = true := h2
        have n1 : its.toArray.size = dl.length := by rw [List.size_toArray, ← rv.length, ra.length]
        have n2 : its2.toArray.size = dl2.length := by rw [List.size_toArray, ← rv2.length, rb.length]
        rw [D.eqb, ← eqbL_min, ← n1, ← n2]
        exact RcAt.tuples pl' (show s.heap.IsTuple _ its2.toArray from pl2) hu0 (itm hin l1 l2 ra rb rv rv2)
      | lst hb rb =>
        cases q2
        obtain ⟨its2, rv2, pl2, hz2⟩ := I.list hb
        exact RcAt.tuple_list pl' pl2.isList hu0
      | non => cases q2; exact RcAt.tuple_none pl' hu0
      | bl b => cases q2; exact RcAt.tuple_bool b pl' hu0
      | int i => obtain ⟨t, rfl⟩ := q2; exact RcAt.tuple_int i t pl' hu0
      | str x => obtain ⟨t, rfl⟩ := q2; exact RcAt.tuple_str x t pl' hu0
      | _ => simp [D.lay] at h2
    | non =>
      cases q1
      cases r2 with
      | lst hb rb => cases q2; obtain ⟨_, _, pl2, _⟩ := I.list hb; exact RcAt.none_list pl2.isList hu0
      | tup hb rb => cases q2; obtain ⟨its2, _, pl2, _⟩ := I.tuple hb; exact RcAt.none_tuple (show s.heap.IsTuple _ its2.toArray from pl2) hu0
      | non => cases q2; exact RcAt.none_none
      | bl b => cases q2; exact RcAt.none_bool b
      | int i => obtain ⟨t, rfl⟩ := q2; exact RcAt.none_int i t
      | str x => obtain ⟨t, rfl⟩ := q2; exact RcAt.none_str x t
      | _ => simp [D.lay] at h2
    | bl y =>
      cases q1
      cases r2 with
      | lst hb rb => cases q2; obtain ⟨_, _, pl2, _⟩ := I.list hb; exact RcAt.bool_list y pl2.isList hu0
      | tup hb rb => cases q2; obtain ⟨its2, _, pl2, _⟩ := I.tuple hb; exact RcAt.bool_tuple y (show s.heap.IsTuple _ its2.toArray from pl2) hu0
      | non => cases q2; exact RcAt.bool_none y
      | bl b => cases q2; exact RcAt.bool_bool y b
      | int i => obtain ⟨t, rfl⟩ := q2; exact RcAt.bool_int y i t
      | str x => obtain ⟨t, rfl⟩ := q2; exact RcAt.bool_str y x t
      | _ => simp [D.lay] at h2
    | int y =>
      obtain ⟨t0, rfl⟩ := q1
      cases r2 with
      | lst hb rb => cases q2; obtain ⟨_, _, pl2, _⟩ := I.list hb; exact RcAt.int_list y t0 pl2.isList hu0
      | tup hb rb => cases q2; obtain ⟨its2, _, pl2, _⟩ := I.tuple hb; exact RcAt.int_tuple y t0 (show s.heap.IsTuple _ its2.toArray from pl2) hu0
      | non => cases q2; exact RcAt.int_none y t0
      | bl b => cases q2; exact RcAt.int_bool y t0 b
      | int i => obtain ⟨t, rfl⟩ := q2; exact RcAt.int_int y t0 i t
      | str x => obtain ⟨t, rfl⟩ := q2; exact RcAt.int_str y t0 x t
      | _ => simp [D.lay] at h2
    | str y =>
      obtain ⟨t0, rfl⟩ := q1
      cases r2 with
      | lst hb rb => cases q2; obtain ⟨_, _, pl2, _⟩ := I.list hb; exact RcAt.str_list y t0 pl2.isList hu0
      | tup hb rb => cases q2; obtain ⟨its2, _, pl2, _⟩ := I.tuple hb; exact RcAt.str_tuple y t0 (show s.heap.IsTuple _ its2.toArray from pl2) hu0
      | non => cases q2; exact RcAt.str_none y t0
      | bl b => cases q2; exact RcAt.str_bool y t0 b
      | int i => obtain ⟨t, rfl⟩ := q2; exact RcAt.str_int y t0 i t
      | str x => obtain ⟨t, rfl⟩ := q2; exact RcAt.str_str y t0 x t
      | _ => simp [D.lay] at h2
    | dct _ _ => simp [D.lay] at h1
    | obj _ _ => simp [D.lay] at h1
    | ref _ => simp [D.lay] at h1
  cases n with
  | zero =>
    refine key 0 hu ?_ ?_
    · cases d <;> simp_all [D.lay]
    · cases e <;> simp_all [D.lay]
  | succ n => exact key n (by omega) h1 h2
open PySem.SeqAt in
theorem rcNeD (I : Inv X pins σ H s) {n : Nat} {d e : D} {A : Around} {v w : V} {a b : Value} (h1 : D.lay n d = true) (h2 : D.lay n e = true) (r1 : Rep X.K fi H v d) (r2 : Rep X.K fi H w e) (q1 : RelV v a) (q2 : RelV w b) (hu : A.units + n + 2 < cLine) : RcNeAt A s a b (!D.eqb d e) := by
  have hu0 : A.units < cLine := by omega
  have itm : ∀ {m : Nat} {xs ys : List D} {vs ws : List V} {as bs : List Value}, A.in1.units + m + 1 < cLine → xs.all (D.lay m) = true → ys.all (D.lay m) = true → RepL X.K fi H vs xs → RepL X.K fi H ws ys → Vals vs as → Vals ws bs →
      ∀ j (h1 : j < as.toArray.size) (h2 : j < bs.toArray.size), EqAt A.in1 s as.toArray[j] bs.toArray[j] (pairEqD xs ys j) := by
    intro m xs ys vs ws as bs hin l1 l2 r1 r2 va vb j j1 j2
    have j1' : j < as.length := by simpa using j1
    have j2' : j < bs.length := by simpa using j2
    have jx : j < xs.length := by rw [← r1.length, va.length]; exact j1'
    have jy : j < ys.length := by rw [← r2.length, vb.length]; exact j2'
    obtain ⟨x1, e1, p1⟩ := r1.get (List.getElem?_eq_getElem jx)
    obtain ⟨x2, e2, p2⟩ := r2.get (List.getElem?_eq_getElem jy)
    obtain ⟨a1, f1, t1⟩ := va.get e1
    obtain ⟨a2, f2, t2⟩ := vb.get e2
    have g1 : as.toArray[j] = a1 := by
      have := List.getElem?_eq_getElem j1'
      rw [f1] at this
      simpa using (Option.some.inj this).symm
    have g2 : bs.toArray[j] = a2 := by
      have := List.getElem?_eq_getElem j2'
      rw [f2] at this
      simpa using (Option.some.inj this).symm
    have pe : pairEqD xs ys j = D.eqb xs[j] ys[j] := by
      unfold pairEqD
      rw [List.getElem?_eq_getElem jx, List.getElem?_eq_getElem jy]
    rw [g1, g2, pe]
    exact eqAtD I m _ _ A.in1 x1 x2 a1 a2 (List.all_eq_true.mp l1 _ (List.getElem_mem jx)) (List.all_eq_true.mp l2 _ (List.getElem_mem jy)) p1 p2 t1 t2 hin
  have key : ∀ (n : Nat), A.units + n + 2 < cLine → D.lay (n + 1) d = true → D.lay (n + 1) e = true → RcNeAt A s a b (!D.eqb d e) := by
    intro n hu h1 h2
    have hin : A.in1.units + n + 1 < cLine := by have : A.in1.units = A.units + 1 := rfl; omega
    cases r1 with
    | @lst al vl dl ha ra =>
      cases q1
      obtain ⟨its, rv, pl, hz⟩ := I.list ha
      have l1 : dl.all (D.lay n) = true := h1
      cases r2 with
      | @lst al2 vl2 dl2 hb rb =>
        cases q2
        obtain ⟨its2, rv2, pl2, hz2⟩ := I.list hb
        have l2 : dl2.all (D.lay n) = true := h2
        have n1 : its.toArray.size = dl.length := by rw [List.size_toArray, ← rv.length, ra.length]
        have n2 : its2.toArray.size = dl2.length := by rw [List.size_toArray, ← rv2.length, rb.length]
        rw [D.eqb]
        by_cases hsz : dl.length = dl2.length
        · rw [← eqbL_all hsz, ← n1]
          exact RcNeAt.lists pl.isList pl2.isList (by omega) hu0 (itm hin l1 l2 ra rb rv rv2)
        · rw [eqbL_len hsz]
          exact RcNeAt.lists_lengths pl.isList pl2.isList (by simp only [bne_iff_ne, ne_eq]; omega) hu0
      | tup hb rb =>
        cases q2
        obtain ⟨its2, rv2, pl2, hz2⟩ := I.tuple hb
        exact RcNeAt.list_tuple pl.isList (show s.heap.IsTuple _ _ from pl2) hu0
      | non => cases q2; exact RcNeAt.list_none pl.isList hu0
      | bl b => cases q2; exact RcNeAt.list_bool b pl.isList hu0
      | int i => obtain ⟨t, rfl⟩ := q2; exact RcNeAt.list_int i t pl.isList hu0
      | str x => obtain ⟨t, rfl⟩ := q2; exact RcNeAt.list_str x t pl.isList hu0
      | _ => simp [D.lay] at h2
    | @tup al vl dl ha ra =>
      cases q1
      obtain ⟨its, rv, pl, hz⟩ := I.tuple ha
      have pl' : s.heap.IsTuple _ its.toArray := pl
      have l1 : dl.all (D.lay n) = true := h1
      cases r2 with
      | @tup al2 vl2 dl2 hb rb =>
        cases q2
        obtain ⟨its2, rv2, pl2, hz2⟩ := I.tuple hb
        have l2 : dl2.all (D.lay n) = true := h2
        have n1 : its.toArray.size = dl.length := by rw [List.size_toArray, ← rv.length, ra.length]
        have n2 : its2.toArray.size = dl2.length := by rw [List.size_toArray, ← rv2.length, rb.length]
        rw [D.eqb, ← eqbL_min, ← n1, ← n2]
        exact RcNeAt.tuples pl' (show s.heap.IsTuple _ its2.toArray from pl2) hu0 (itm hin l1 l2 ra rb rv rv2)
      | lst hb rb =>
        cases q2
        obtain ⟨its2, rv2, pl2, hz2⟩ := I.list hb
        exact RcNeAt.tuple_list pl' pl2.isList hu0
      | non => cases q2; exact RcNeAt.tuple_none pl' hu0
      | bl b => cases q2; exact RcNeAt.tuple_bool b pl' hu0
      | int i => obtain ⟨t, rfl⟩ := q2; exact RcNeAt.tuple_int i t pl' hu0
      | str x => obtain ⟨t, rfl⟩ := q2; exact RcNeAt.tuple_str x t pl' hu0
      | _ => simp [D.lay] at h2
    | non =>
      cases q1
      cases r2 with
      | lst hb rb => cases q2; obtain ⟨_, _, pl2, _⟩ := I.list hb; exact RcNeAt.none_list pl2.isList hu0
      | tup hb rb => cases q2; obtain ⟨its2, _, pl2, _⟩ := I.tuple hb; exact RcNeAt.none_tuple (show s.heap.IsTuple _ its2.toArray from pl2) hu0
      | non => cases q2; exact RcNeAt.none_none
      | bl b => cases q2; exact RcNeAt.none_bool b
      | int i => obtain ⟨t, rfl⟩ := q2; exact RcNeAt.none_int i t
      | str x => obtain ⟨t, rfl⟩ := q2; exact RcNeAt.none_str x t
      | _ => simp [D.lay] at h2
    | bl y =>
      cases q1
      cases r2 with
      | lst hb rb => cases q2; obtain ⟨_, _, pl2, _⟩ := I.list hb; exact RcNeAt.bool_list y pl2.isList hu0
      | tup hb rb => cases q2; obtain ⟨its2, _, pl2, _⟩ := I.tuple hb; exact RcNeAt.bool_tuple y (show s.heap.IsTuple _ its2.toArray from pl2) hu0
      | non => cases q2; exact RcNeAt.bool_none y
      | bl b => cases q2; exact RcNeAt.bool_bool y b
      | int i => obtain ⟨t, rfl⟩ := q2; exact RcNeAt.bool_int y i t
      | str x => obtain ⟨t, rfl⟩ := q2; exact RcNeAt.bool_str y x t
      | _ => simp [D.lay] at h2
    | int y =>
      obtain ⟨t0, rfl⟩ := q1
      cases r2 with
      | lst hb rb => cases q2; obtain ⟨_, _, pl2, _⟩ := I.list hb; exact RcNeAt.int_list y t0 pl2.isList hu0
      | tup hb rb => cases q2; obtain ⟨its2, _, pl2, _⟩ := I.tuple hb; exact RcNeAt.int_tuple y t0 (show s.heap.IsTuple _ its2.toArray from pl2) hu0
      | non => cases q2; exact RcNeAt.int_none y t0
      | bl b => cases q2; exact RcNeAt.int_bool y t0 b
      | int i => obtain ⟨t, rfl⟩ := q2; exact RcNeAt.int_int y t0 i t
      | str x => obtain ⟨t, rfl⟩ := q2; exact RcNeAt.int_str y t0 x t
      | _ => simp [D.lay] at h2
    | str y =>
      obtain ⟨t0, rfl⟩ := q1
      cases r2 with
      | lst hb rb => cases q2; obtain ⟨_, _, pl2, _⟩ := I.list hb; exact RcNeAt.str_list y t0 pl2.isList hu0
      | tup hb rb => cases q2; obtain ⟨its2, _, pl2, _⟩ := I.tuple hb; exact RcNeAt.str_tuple y t0 (show s.heap.IsTuple _ its2.toArray from pl2) hu0
      | non => cases q2; exact RcNeAt.str_none y t0
      | bl b => cases q2; exact RcNeAt.str_bool y t0 b
      | int i => obtain ⟨t, rfl⟩ := q2; exact RcNeAt.str_int y t0 i t
      | str x => obtain ⟨t, rfl⟩ := q2; exact RcNeAt.str_str y t0 x t
      | _ => simp [D.lay] at h2
    | dct _ _ => simp [D.lay] at h1
    | obj _ _ => simp [D.lay] at h1
    | ref _ => simp [D.lay] at h1
  cases n with
  | zero =>
    refine key 0 hu ?_ ?_
    · cases d <;> simp_all [D.lay]
    · cases e <;> simp_all [D.lay]
  | succ n => exact key n (by omega) h1 h2
theorem od_eq (hu : X.A.units + 64 < cLine) : OpD X (compareOp .Eq) Op.eq := by
  intro pins s σ H x y v u Q I rx ry ⟨g, st, d, e, sr, bx, by_, q⟩
  obtain ⟨c, q⟩ := Mp.ite q
  obtain ⟨c1, c2⟩ := Bool.and_eq_true_iff.mp c
  exact rcAtD I c1 c2 (bx.rd sr) (by_.rd sr) rx ry (by omega) X.prog X.w X.xe _ ⟨.bl _, H, I, rfl, Mp.pure q sr (.bl _)⟩
theorem od_ne (hu : X.A.units + 64 < cLine) : OpD X (compareOp .NotEq) Op.ne := by
  intro pins s σ H x y v u Q I rx ry ⟨g, st, d, e, sr, bx, by_, q⟩
  obtain ⟨c, q⟩ := Mp.ite q
  obtain ⟨c1, c2⟩ := Bool.and_eq_true_iff.mp c
  exact rcNeD I c1 c2 (bx.rd sr) (by_.rd sr) rx ry (by omega) X.prog X.w X.xe _ ⟨.bl _, H, I, rfl, Mp.pure q sr (.bl _)⟩
open PySem.SeqAt in
theorem any_of (I : Inv X pins σ H s) {n : Nat} {x : D} {xv : V} {xu : Value} {A : Around} {ys : List D} {vs : List V} {us : List Value} (hx : D.lay n x = true) (hy : ys.all (D.lay n) = true) (r : Rep X.K fi H xv x) (q : RelV xv xu) (rl : RepL X.K fi H vs ys) (vl : Vals vs us) (hu : A.units + n + 1 < cLine) :
    ∃ e : Value → Bool, (∀ u ∈ us, EqAt A s u xu (e u)) ∧ us.any e = ys.any fun y => D.eqb y x := by
  have pair : ∀ (i : Nat) (u : Value), us[i]? = some u → ∃ (w : V) (y : D), ys[i]? = some y ∧ RelV w u ∧ Rep X.K fi H w y := fun i u e => by
    have hi : i < us.length := (List.getElem?_eq_some_iff.mp e).1
    have hv : i < vs.length := by rw [vl.length]; exact hi
    have hd : i < ys.length := by rw [← rl.length]; exact hv
    obtain ⟨w, e1, r1⟩ := rl.get (List.getElem?_eq_getElem hd)
    obtain ⟨u', e2, r2⟩ := vl.get e1
    rw [e] at e2; cases e2
    exact ⟨w, _, List.getElem?_eq_getElem hd, r2, r1⟩
  have uniq : ∀ (i j : Nat) (u : Value) (y z : D), us[i]? = some u → us[j]? = some u → ys[i]? = some y → ys[j]? = some z → y = z := fun i j u y z e1 e2 e3 e4 => by
    obtain ⟨w, y', f1, f2, f3⟩ := pair i u e1
    obtain ⟨w', z', g1, g2, g3⟩ := pair j u e2
    rw [e3] at f1; cases f1
    rw [e4] at g1; cases g1
    rw [f2.inj g2] at f3
    exact Rep.inj I n _ _ _ (List.all_eq_true.mp hy _ (List.mem_of_getElem? e3)) (List.all_eq_true.mp hy _ (List.mem_of_getElem? e4)) f3 g3
  classical
  refine ⟨fun u => decide (∃ (i : Nat) (y : D), us[i]? = some u ∧ ys[i]? = some y ∧ D.eqb y x = true), fun u hm => ?_, ?_⟩
  · obtain ⟨i, e⟩ := List.getElem?_of_mem hm
    obtain ⟨w, y, e1, r1, r2⟩ := pair i u e
    have : decide (∃ (i : Nat) (y : D), us[i]? = some u ∧ ys[i]? = some y ∧ D.eqb y x = true) = D.eqb y x := by
      rw [Bool.eq_iff_iff, decide_eq_true_iff]
      constructor
      · rintro ⟨j, z, f1, f2, f3⟩
        rw [uniq i j u y z e f1 e1 f2]; exact f3
      · intro h; exact ⟨i, y, e, e1, h⟩
    show EqAt A s u xu (decide (∃ (i : Nat) (y : D), us[i]? = some u ∧ ys[i]? = some y ∧ D.eqb y x = true))
    rw [this]
    exact eqAtD I n y x A w xv u xu (List.all_eq_true.mp hy _ (List.mem_of_getElem? e1)) hx r2 r r1 q hu
  · rw [Bool.eq_iff_iff, List.any_eq_true, List.any_eq_true]
    constructor
    · rintro ⟨u, hm, h⟩
      obtain ⟨i, y, e1, e2, e3⟩ := of_decide_eq_true h
      exact ⟨y, List.mem_of_getElem? e2, e3⟩
    · rintro ⟨y, hm, h⟩
      obtain ⟨i, e⟩ := List.getElem?_of_mem hm
      have hi : i < us.length := by rw [← vl.length, rl.length]; exact (List.getElem?_eq_some_iff.mp e).1
      exact ⟨us[i], List.getElem_mem hi, decide_eq_true ⟨i, y, List.getElem?_eq_getElem hi, e, h⟩⟩
theorem in_all (hu : X.A.units + 64 < cLine) {x y : V} {v u : Value} {Q : VK} {g : Gh} {st : Sto} {d e : D} {b : Bool} (I : Inv X pins σ H s) (rx : RelV x v) (ry : RelV y u) (sr : SR X.K H g st) (bx : Bor X.K g H x d) (by_ : Bor X.K g H y e) (h : Op.isIn0 d e = some b) :
    (Q (.bl b) H → wpAny (model X.prog X.w) X.A (compareOp .In v u) (EP X pins σ Q) X.xe s) ∧ (Q (.bl (!b)) H → wpAny (model X.prog X.w) X.A (compareOp .NotIn v u) (EP X pins σ Q) X.xe s) := by
  have h1 : X.A.in1.units + 40 + 1 < cLine := by have : X.A.in1.units = X.A.units + 1 := rfl; omega
  unfold Op.isIn0 at h
  split at h
  · rename_i ys
    split at h
    · rename_i c
      obtain ⟨c1, c2⟩ := Bool.and_eq_true_iff.mp c
      cases h
      obtain ⟨a, vs, rfl, hl, rl⟩ := by_.lst sr
      cases ry
      obtain ⟨its, rv, pl, hz⟩ := I.list hl
      obtain ⟨e, he, ea⟩ := any_of I c1 c2 (bx.rd sr) rx (rl.mono sr.sub .rfl) rv h1
      have ea' : its.toArray.any e = ys.any fun y => D.eqb y d := by rw [← ea]; simp
      refine ⟨fun q => PySem.SeqAt.in_listAt e pl.isList (fun z hz => he z (by simpa using hz)) ?_, fun q => PySem.SeqAt.notIn_listAt e pl.isList (fun z hz => he z (by simpa using hz)) ?_⟩
      · rw [ea']; exact ⟨.bl _, H, I, rfl, q⟩
      · rw [ea']; exact ⟨.bl _, H, I, rfl, q⟩
    · cases h
  · rename_i ys
    split at h
    · rename_i c
      obtain ⟨c1, c2⟩ := Bool.and_eq_true_iff.mp c
      cases h
      obtain ⟨a, vs, rfl, hl, rl⟩ := by_.tup sr
      cases ry
      obtain ⟨its, rv, pl, hz⟩ := I.tuple hl
      have pl' : s.heap.IsTuple a its.toArray := pl
      obtain ⟨e, he, ea⟩ := any_of I c1 c2 (bx.rd sr) rx (rl.mono sr.sub .rfl) rv h1
      have ea' : its.toArray.any e = ys.any fun y => D.eqb y d := by rw [← ea]; simp
      refine ⟨fun q => PySem.SeqAt.in_tupleAt e pl' (fun z hz => he z (by simpa using hz)) ?_, fun q => PySem.SeqAt.notIn_tupleAt e pl' (fun z hz => he z (by simpa using hz)) ?_⟩
      · rw [ea']; exact ⟨.bl _, H, I, rfl, q⟩
      · rw [ea']; exact ⟨.bl _, H, I, rfl, q⟩
    · cases h
  · split at h
    · cases h
      rw [by_.str] at ry
      rw [bx.str] at rx
      exact ⟨fun q => op_in_str pins s σ H _ _ v u Q I rx ry ⟨_, _, rfl, rfl, q⟩, fun q => op_notin_str pins s σ H _ _ v u Q I rx ry ⟨_, _, rfl, rfl, q⟩⟩
    · cases h
  · cases h
theorem od_in (hu : X.A.units + 64 < cLine) : OpD X (compareOp .In) Op.isIn := by
  intro pins s σ H x y v u Q I rx ry ⟨g, st, d, e, sr, bx, by_, q⟩
  unfold Op.isIn at q
  split at q
  · rename_i b hb
    exact (in_all hu I rx ry sr bx by_ hb).1 (Mp.pure q sr (.bl _))
  · exact q.elim
theorem od_notIn (hu : X.A.units + 64 < cLine) : OpD X (compareOp .NotIn) Op.notIn := by
  intro pins s σ H x y v u Q I rx ry ⟨g, st, d, e, sr, bx, by_, q⟩
  unfold Op.notIn at q
  split at q
  · rename_i b hb
    exact (in_all hu I rx ry sr bx by_ hb).2 (Mp.pure q sr (.bl _))
  · exact q.elim
theorem od_isBl : OpD X (compareOp .Is) Op.isBl := by
  intro pins s σ H x y v u Q I rx ry ⟨g, st, d, e, sr, bx, by_, q⟩
  unfold Op.isBl at q
  split at q
  · rw [bx.bl] at rx; rw [by_.bl] at ry
    exact op_is_bl pins s σ H _ _ v u Q I rx ry ⟨_, _, rfl, rfl, Mp.pure q sr (.bl _)⟩
  · exact q.elim
end
section
variable {X : Cx} {W : WX} {env : EnvD} {a : Expr} {m : M D} {pos : Pos}
theorem Bor.isNon {K : PySem.W.Frag} {H : Hp} {g : Gh} {v : V} {d : D} (b : Bor K g H v d) : decide (v = .non) = Op.isNon d := by
  rcases b with r | ⟨a, rfl, o, _, _⟩
  · cases r <;> rfl
  · cases d <;> first | rfl | exact o.elim
theorem je_isNone {j pos'} (h : JB X W env a m) : JE X W env (.Compare a [.Is] [.Constant .none j pos'] pos) (m >>= fun d => pure (D.bl (Op.isNon d))) :=
  PE.imp (pe_cmp (pc_isN h)) fun σ H Q ⟨g, s, sr, eo, q⟩ => tX.bind sr eo q fun d s1 v H1 g1 st sr1 eo1 r q1 => by
    rw [r.isNon]; exact Mp.pure q1 sr1 (.bl _)
theorem je_isNotNone {j pos'} (h : JB X W env a m) : JE X W env (.Compare a [.IsNot] [.Constant .none j pos'] pos) (m >>= fun d => pure (D.bl (!Op.isNon d))) :=
  PE.imp (pe_cmp (pc_notN h)) fun σ H Q ⟨g, s, sr, eo, q⟩ => tX.bind sr eo q fun d s1 v H1 g1 st sr1 eo1 r q1 => by
    rw [r.isNon]; exact Mp.pure q1 sr1 (.bl _)
end
end DL

set_option maxRecDepth 100000
set_option autoImplicit false
/-! DL5: places, slices, displays, built-in calls and methods. -/
namespace DL
open PySem PySem.Spec PyProof.Rows L2
instance : LawfulMonad M := LawfulMonad.mk' M
  (id_map := fun x => by funext s; show M.bnd x (fun a => M.pur (id a)) s = x s; unfold M.bnd M.pur; cases x s <;> rfl)
  (pure_bind := fun x f => rfl)
  (bind_assoc := fun x f g => by funext s; show M.bnd (M.bnd x f) g s = M.bnd x (fun a => M.bnd (f a) g) s; unfold M.bnd; cases x s <;> rfl)

namespace Op
def at0 (d : D) (k : Int) : Option D := match d with
  | .lst xs => atI xs k
  | .tup xs => atI xs k
  | .str z => if lenOk z.length then (atI z.cps.toList k).map fun c => D.str ⟨#[c]⟩ else none
  | _ => none
def lookD : List (D × D) → D → Option D
  | [], _ => none
  | (k, v) :: es, x => if D.eqb k x then some v else lookD es x
/-- a[i] -/
def idx (d i : D) : M D := fun s => match i with
  | .int k => (match d with
    | .ref n => (match s[n]? with
      | some c => (match at0 c k with
        | some x => .ok x s
        | none => .bad)
      | none => .bad)
    | _ => (match at0 d k with
      | some x => .ok x s
      | none => .bad))
  | _ => .bad
def cut {α : Type} (xs : List α) (lo hi : Option Int) : List α := (xs.drop (HT.sIx xs.length 0 lo)).take (HT.sIx xs.length xs.length hi - HT.sIx xs.length 0 lo)
/-- a[lo:hi] -/
def slc (d : D) (lo hi : Option Int) : M D := match d with
  | .lst xs => pure (.lst (cut xs lo hi))
  | .tup xs => pure (.tup (cut xs lo hi))
  | .str z => if lenOk z.length then pure (.str (cutS z lo hi)) else M.bad
  | _ => M.bad
def asInt : D → M Int
  | .int i => pure i
  | _ => M.bad
def mkT (ds : List D) : M D := if lenOk ds.length then pure (.tup ds) else M.bad
def mkL (ds : List D) : M D := if lenOk ds.length then pure (.lst ds) else M.bad
end Op
theorem nx_idx (d e : D) : NoEx (Op.idx d e) := fun s c x s' h => by
  unfold Op.idx at h
  split at h
  · split at h
    · split at h
      · split at h <;> cases h
      · cases h
    · split at h <;> cases h
  · cases h
section
variable {K : PySem.W.Frag} {H : Hp} {g : Gh} {s : Sto}
theorem atI_rep {fi : List Addr} {hb : Hp} {vs : List V} {ds : List D} {k : Int} {d : D} (r : RepL K fi hb vs ds) (h : atI ds k = some d) : ∃ v, atI vs k = some v ∧ Rep K fi hb v d := by
  unfold atI at h ⊢
  rw [r.length]
  cases e : ixN ds.length k with
  | none => rw [e] at h; cases h
  | some j =>
    rw [e] at h
    obtain ⟨v, e1, r1⟩ := r.get (show ds[j]? = some d from h)
    exact ⟨v, e1, r1⟩
theorem cut_rep {fi : List Addr} {hb : Hp} {vs : List V} {ds : List D} (r : RepL K fi hb vs ds) (lo hi : Option Int) : RepL K fi hb (cutV vs lo hi) (Op.cut ds lo hi) := by
  unfold cutV Op.cut
  rw [r.length]
  exact (r.drop _).take _
end
section
variable {X : Cx} {W : WX} {env : EnvD}
theorem ix_d : IxR X fun x y H Q => ∃ g s d e, SR X.K H g s ∧ Bor X.K g H x d ∧ Bor X.K g H y e ∧ Mp X.K (RS X.K) (Op.idx d e) H g s Q fun _ _ _ => False := by
  intro value slice pins s σ H x y v u Q I rx ry ⟨g, st, d, e, sr, bx, by_, q⟩ hs
  have fin : ∀ (d : D) (k : Int) (r : D), Bor X.K g H x d → Op.at0 d k = some r → RelV (V.int k) u → (∀ w, Rep X.K g.fi g.hb w r → Q w H) → wpAny (model X.prog X.w) X.A (subscriptTail value slice v u) (EP X pins σ Q) X.xe s := by
    intro d k r bx h ry q
    unfold Op.at0 at h
    split at h
    · obtain ⟨a, vs, rfl, hl, rl⟩ := bx.lst sr
      obtain ⟨w, e1, r1⟩ := atI_rep rl h
      exact ix_list value slice pins s σ H _ _ v u Q I rx ry ⟨_, _, _, _, rfl, rfl, hl, e1, q w r1⟩ hs
    · obtain ⟨a, vs, rfl, hl, rl⟩ := bx.tup sr
      obtain ⟨w, e1, r1⟩ := atI_rep rl h
      exact ix_tup value slice pins s σ H _ _ v u Q I rx ry ⟨_, _, _, _, rfl, rfl, hl, e1, q w r1⟩ hs
    · rename_i z
      split at h
      · rename_i c
        cases e : atI z.cps.toList k with
        | none => rw [e] at h; cases h
        | some cc =>
          rw [e] at h
          cases h
          have := bx.str
          subst this
          exact ix_str value slice pins s σ H _ _ v u Q I rx ry ⟨_, _, _, rfl, rfl, lenOk_le c, e, q _ (.str _)⟩ hs
      · cases h
    · cases h
  have q' : (Op.idx d e st).post (okP X.K (RS X.K) H g Q) (exP X.K H g fun _ _ _ => False) := q
  unfold Op.idx at q'
  split at q'
  · rename_i k
    have := by_.int
    subst this
    split at q'
    · rename_i n
      split at q'
      · rename_i c hc
        split at q'
        · rename_i r hr
          have bx' : Rep X.K g.fi g.hb x (.ref n) := by
            rcases bx with b | ⟨a, _, o, _⟩
            · exact b
            · exact o.elim
          cases bx' with
          | @ref a _ ha =>
            have o := sr.cell n a c ha hc
            -- the cell, read as one's own
            have b2 : Op.at0 c k = some r → ∃ w vs, H a = some (.lst vs) ∧ atI vs k = some w ∧ Rep X.K g.fi g.hb w r := fun h => by
              cases c with
              | lst ds =>
                obtain ⟨vs, h1, rl⟩ := o
                obtain ⟨w, e1, r1⟩ := atI_rep rl h
                exact ⟨w, vs, h1, e1, r1⟩
              | tup ds => exact o.elim
              | str z => exact o.elim
              | _ => cases h
            obtain ⟨w, vs, h1, h2, h3⟩ := b2 hr
            exact ix_list value slice pins s σ H _ _ v u Q I rx ry ⟨_, _, _, _, rfl, rfl, SqL.of h1, h2, Mp.pure (Rl := RS X.K) q' sr h3⟩ hs
        · exact q'.elim
      · exact q'.elim
    · split at q'
      · rename_i r hr
        exact fin d k r bx hr ry fun w rw => Mp.pure (Rl := RS X.K) (a := r) q' sr rw
      · exact q'.elim
  · exact q'.elim
theorem je_ix {a b : Expr} {ma mb : M D} {pos : Pos} (ha : JB X W env a ma) (hb : JB X W env b mb) (hs : PlainIx b) : JE X W env (.Subscript a b pos) (ma >>= fun x => mb >>= fun y => Op.idx x y) :=
  PE.imp (pe_ix ix_d ha hb hs) fun σ H Q ⟨g, s, sr, eo, q⟩ => tX.bind sr eo q fun d s1 v H1 g1 st sr1 eo1 r q1 => tX.bind sr1 eo1 q1 fun d' s2 v' H2 g2 st2 sr2 eo2 r' q2 =>
    ⟨g2, s2, d, d', sr2, r.step st2, r', (nx_idx d d').mp q2⟩
/-! slices -/
abbrev RO : Rel (Option Int) (Option Int) := fun _ _ v d => v = d
abbrev JO (X : Cx) (W : WX) (env : EnvD) (e : Option Expr) (m : M (Option Int)) : Prop := PO X e (tX X.K W env RO m)
theorem PO.imp {e : Option Expr} {t t' : TO} (h : PO X e t) (i : ∀ σ H Q, t' σ H Q → t σ H Q) : PO X e t' := ⟨fun pins s σ H Q I q => h.run pins s σ H Q I (i σ H Q q)⟩
theorem jo_none : JO X W env none (pure none) := PO.imp po_none fun σ H Q ⟨g, s, sr, eo, q⟩ => Mp.pure q sr rfl
theorem jo_some {e : Expr} {m : M D} (h : JE X W env e m) : JO X W env (some e) (m >>= fun d => Op.asInt d >>= fun i => pure (some i)) :=
  PO.imp (po_some h) fun σ H Q ⟨g, s, sr, eo, q⟩ => tX.bind sr eo q fun d s1 v H1 g1 st sr1 eo1 r q1 => by
    cases d with
    | int i => cases r; exact ⟨i, rfl, Mp.pure q1 sr1 rfl⟩
    | _ => exact q1.elim
theorem nx_slc (d : D) (lo hi : Option Int) : NoEx (Op.slc d lo hi) := by
  unfold Op.slc; split <;> first | exact noEx_pure _ | exact noEx_bad | exact noEx_ite (noEx_pure _) noEx_bad
def rSlD (K : PySem.W.Frag) : V → Option Int → Option Int → Hp → VK → Prop := fun x lo hi H Q => ∃ g s d, SR K H g s ∧ Bor K g H x d ∧ Mp K (RS K) (Op.slc d lo hi) H g s Q fun _ _ _ => False
theorem sl_d : SlR X (rSlD X.K) := by
  intro pins s σ H x v vl vu lo hi sl Q I rx hs pl pu ⟨g, st, d, sr, bx, q⟩
  unfold Op.slc at q
  split at q
  · obtain ⟨a, vs, rfl, hl, rl⟩ := bx.lst sr
    exact sl_list pins s σ H _ v vl vu lo hi sl Q I rx hs pl pu ⟨_, _, rfl, hl, fun p hp => Mp.newL q sr (cut_rep rl lo hi) hp⟩
  · rename_i xs
    obtain ⟨a, vs, rfl, hl, rl⟩ := bx.tup sr
    refine sl_tupA pins s σ H _ v vl vu lo hi sl Q I rx hs pl pu ⟨_, _, rfl, hl, fun hw => ?_, fun _ p hp => Mp.newT q sr (cut_rep rl lo hi) hp⟩
    have : Op.cut xs lo hi = xs := by
      unfold Op.cut
      rw [← rl.length, hw.1, hw.2, List.drop_zero, Nat.sub_zero, rl.length, List.take_length]
    rw [this] at q
    rcases bx with b | ⟨c, e, o, _⟩
    · exact Mp.pure q sr b
    · exact o.elim
  · have := bx.str
    subst this
    obtain ⟨c, q⟩ := q.ite
    exact sl_str pins s σ H _ v vl vu lo hi sl Q I rx hs pl pu ⟨_, rfl, lenOk_le c, Mp.pure q sr (.str _)⟩
  · exact q.elim
theorem je_slice {e : Expr} {lo hi : Option Expr} {p2 pos : Pos} {m : M D} {ml mh : M (Option Int)} (he : JB X W env e m) (hl : JO X W env lo ml) (hu : JO X W env hi mh) : JE X W env (.Subscript e (.Slice lo hi none p2) pos) (m >>= fun d => ml >>= fun l => mh >>= fun h => Op.slc d l h) :=
  PE.imp (pe_slice sl_d he hl hu) fun σ H Q ⟨g, s, sr, eo, q⟩ => tX.bind sr eo q fun d s1 v H1 g1 st sr1 eo1 r q1 => tX.bind sr1 eo1 q1 fun l s2 v' H2 g2 st2 sr2 eo2 r' q2 => tX.bind sr2 eo2 q2 fun h s3 v'' H3 g3 st3 sr3 eo3 r'' q3 => by
    cases r'; cases r''
    exact ⟨g3, s3, d, sr3, (r.step st2).step st3, (nx_slc _ _ _).mp q3⟩

/-! arguments, displays -/
theorem ja_nil : JA X W env [] (pure []) := PA.imp pa_nil fun σ H Q ⟨g, s, sr, eo, q⟩ => Mp.pure q sr .nil
theorem ja_cons {e : Expr} {es : List Expr} {m : M D} {ms : M (List D)} (h : JE X W env e m) (hs : JA X W env es ms) (hst : starEach (e :: es) X.env = (false, eval e X.env) :: starEach es X.env := by rfl) : JA X W env (e :: es) (m >>= fun x => ms >>= fun xs => pure (x :: xs)) :=
  PA.imp (pa_cons h hs hst) fun σ H Q ⟨g, s, sr, eo, q⟩ => tX.bind sr eo q fun d s1 v H1 g1 st sr1 eo1 r q1 => tX.bind sr1 eo1 q1 fun ds s2 vs H2 g2 st2 sr2 eo2 rs q2 => Mp.pure q2 sr2 (.cons (r.mono st2.hb st2.fi) rs)
theorem jab_nil : JAb X W env [] (pure []) := PA.imp pa_nil fun σ H Q ⟨g, s, sr, eo, q⟩ => Mp.pure q sr .nil
theorem jab_cons {e : Expr} {es : List Expr} {m : M D} {ms : M (List D)} (h : JB X W env e m) (hs : JAb X W env es ms) (hst : starEach (e :: es) X.env = (false, eval e X.env) :: starEach es X.env := by rfl) : JAb X W env (e :: es) (m >>= fun x => ms >>= fun xs => pure (x :: xs)) :=
  PA.imp (pa_cons h hs hst) fun σ H Q ⟨g, s, sr, eo, q⟩ => tX.bind sr eo q fun d s1 v H1 g1 st sr1 eo1 r q1 => tX.bind sr1 eo1 q1 fun ds s2 vs H2 g2 st2 sr2 eo2 rs q2 => Mp.pure q2 sr2 (.cons (r.step st2) rs)
theorem je_tup {es : List Expr} {k : Nat} {pos : Pos} {m : M (List D)} (h : JA X W env es m) : JE X W env (.Tuple es k pos) (m >>= Op.mkT) :=
  PE.imp (pe_tup h) fun σ H Q ⟨g, s, sr, eo, q⟩ => tX.bind sr eo q fun d s1 v H1 g1 st sr1 eo1 r q1 => by
    obtain ⟨c, q1⟩ := Mp.ite q1
    exact ⟨by rw [r.length]; exact lenOk_le c, fun p hp => Mp.newT q1 sr1 r hp⟩
theorem je_lst {es : List Expr} {pos : Pos} {m : M (List D)} (h : JA X W env es m) : JE X W env (.List es pos) (m >>= Op.mkL) :=
  PE.imp (pe_lst h) fun σ H Q ⟨g, s, sr, eo, q⟩ => tX.bind sr eo q fun d s1 v H1 g1 st sr1 eo1 r q1 => by
    obtain ⟨c, q1⟩ := Mp.ite q1
    exact ⟨by rw [r.length]; exact lenOk_le c, fun p hp => Mp.newL q1 sr1 r hp⟩
/-! {} -/
theorem je_dct0 {pos : Pos} : JE X W env (.Dict [] [] pos) (pure (.dct [])) :=
  PE.imp pe_dnewK fun σ H Q ⟨g, s, sr, eo, q⟩ p hp => q (.ref p) _ ⟨upd g.hb p (.dK []), g.fi⟩ (Step.new sr.sub hp) (sr.new hp) (.dct upd_same .nil)

/-! ### built-in calls -/
def CallD (X : Cx) (f : Value) (g : List D → M D) : Prop := CallR X f fun vs H Q => ∃ gh s ds, SR X.K H gh s ∧ BorL X.K gh H vs ds ∧ Mp X.K (RS X.K) (g ds) H gh s Q fun _ _ _ => False
theorem je_callB {id : String} {f : List D → M D} {x : Str} {p pos : Pos} {e : Expr} {es : List Expr} {m : M (List D)} (hc : CallD X (.builtin id) f) (nx : ∀ ds, NoEx (f ds)) (hg : Gl X x) (hm : X.mg x = none) (hv : bootBuiltins x = some (.builtin id)) (ha : JAb X W env (e :: es) m) (hn : x ≠ "__name__" := by decide) (hdb : (x == ("__debug__" : Str)) = false := by decide)
    (he : starEach (e :: es) X.env = (false, eval e X.env) :: starEach es X.env := by rfl) (hpl : (backTo pos (starEach es X.env)).any (·.1) = false := by rfl) : JE X W env (.Call (.Name x p) (e :: es) [] pos) (m >>= f) :=
  PE.imp (pe_callB hc hg hm hv ha hn hdb he hpl) fun σ H Q ⟨g, s, sr, eo, q⟩ => tX.bind sr eo q fun d s1 v H1 g1 st sr1 eo1 r q1 => ⟨g1, s1, d, sr1, r, (nx d).mp q1⟩
theorem je_callTy {T : String} {f : List D → M D} {x : Str} {p pos : Pos} {e : Expr} {es : List Expr} {m : M (List D)} (hc : CallD X (.type T) f) (nx : ∀ ds, NoEx (f ds)) (hg : Gl X x) (hm : X.mg x = none) (hv : bootBuiltins x = some (.type T)) (ha : JAb X W env (e :: es) m) (hn : x ≠ "__name__" := by decide) (hdb : (x == ("__debug__" : Str)) = false := by decide)
    (he : starEach (e :: es) X.env = (false, eval e X.env) :: starEach es X.env := by rfl) (hpl : (backTo pos (starEach es X.env)).any (·.1) = false := by rfl) : JE X W env (.Call (.Name x p) (e :: es) [] pos) (m >>= f) :=
  PE.imp (pe_callTy hc hg hm hv ha hn hdb he hpl) fun σ H Q ⟨g, s, sr, eo, q⟩ => tX.bind sr eo q fun d s1 v H1 g1 st sr1 eo1 r q1 => ⟨g1, s1, d, sr1, r, (nx d).mp q1⟩
end
end DL

set_option maxRecDepth 100000
set_option autoImplicit false
/-! DL6: built-in functions, methods, isinstance. -/
namespace DL
open PySem PySem.Spec PyProof.Rows L2
namespace Bi
def intsOf : List D → Option (List Int)
  | [] => some []
  | .int i :: r => (intsOf r).map (i :: ·)
  | _ => none
def blsOf : List D → Option (List Bool)
  | [] => some []
  | .bl i :: r => (blsOf r).map (i :: ·)
  | _ => none
def strsOf : List D → Option (List Str)
  | [] => some []
  | .str i :: r => (strsOf r).map (i :: ·)
  | _ => none
def opt {α β : Type} (o : Option α) (k : α → M β) : M β := match o with
  | some a => k a
  | none => M.bad
def len : List D → M D
  | [.lst xs] => pure (.int xs.length)
  | [.tup xs] => pure (.int xs.length)
  | [.dct xs] => pure (.int xs.length)
  | [.str z] => if Op.lenOk z.length then pure (.int z.length) else M.bad
  | _ => M.bad
def abs : List D → M D
  | [.int i] => pure (.int (if i < 0 then -i else i))
  | _ => M.bad
def int : List D → M D
  | [.int i] => pure (.int i)
  | [.bl b] => pure (.int (if b then 1 else 0))
  | [.str a] => if decide (a.length ≤ 640) then opt (PySem.intText? a) fun n => pure (.int n) else M.bad
  | _ => M.bad
def str : List D → M D
  | [.int i] => if decide (i.natAbs.log2 < 1920) then pure (.str (toString i)) else M.bad
  | [.str a] => pure (.str a)
  | _ => M.bad
def all : List D → M D
  | [.lst xs] => opt (blsOf xs) fun bs => pure (.bl (bs.all id))
  | _ => M.bad
def any : List D → M D
  | [.lst xs] => opt (blsOf xs) fun bs => pure (.bl (bs.any id))
  | _ => M.bad
def sum : List D → M D
  | [.lst xs] => opt (intsOf xs) fun ns => pure (.int ns.sum)
  | _ => M.bad
def maxI : List Int → Int
  | [] => 0
  | [x] => x
  | x :: r => Max.max x (maxI r)
def minI : List Int → Int
  | [] => 0
  | [x] => x
  | x :: r => Min.min x (minI r)
def max : List D → M D
  | [.int i, .int j] => pure (.int (if j > i then j else i))
  | [.lst xs] => opt (intsOf xs) fun ns => if decide (0 < ns.length) then pure (.int (maxI ns)) else M.bad
  | _ => M.bad
def min : List D → M D
  | [.int i, .int j] => pure (.int (if j < i then j else i))
  | [.lst xs] => opt (intsOf xs) fun ns => if decide (0 < ns.length) then pure (.int (minI ns)) else M.bad
  | _ => M.bad
def list : List D → M D
  | [.lst xs] => pure (.lst xs)
  | [.tup xs] => pure (.lst xs)
  | _ => M.bad
def tuple : List D → M D
  | [.lst xs] => pure (.tup xs)
  | [.tup xs] => pure (.tup xs)
  | _ => M.bad
theorem ints_eq : ∀ {xs : List D} {ns : List Int}, intsOf xs = some ns → xs = ns.map D.int
  | [], ns, h => by cases h; rfl
  | .int i :: r, ns, h => by
    unfold intsOf at h
    cases e : intsOf r with
    | none => rw [e] at h; cases h
    | some ms => rw [e] at h; cases h; rw [ints_eq e]; rfl
  | .non :: _, _, h => by cases h
  | .bl _ :: _, _, h => by cases h
  | .str _ :: _, _, h => by cases h
  | .lst _ :: _, _, h => by cases h
  | .tup _ :: _, _, h => by cases h
  | .dct _ :: _, _, h => by cases h
  | .set _ :: _, _, h => by cases h
  | .obj _ _ :: _, _, h => by cases h
  | .ref _ :: _, _, h => by cases h
theorem bls_eq : ∀ {xs : List D} {ns : List Bool}, blsOf xs = some ns → xs = ns.map D.bl
  | [], ns, h => by cases h; rfl
  | .bl i :: r, ns, h => by
    unfold blsOf at h
    cases e : blsOf r with
    | none => rw [e] at h; cases h
    | some ms => rw [e] at h; cases h; rw [bls_eq e]; rfl
  | .non :: _, _, h => by cases h
  | .int _ :: _, _, h => by cases h
  | .str _ :: _, _, h => by cases h
  | .lst _ :: _, _, h => by cases h
  | .tup _ :: _, _, h => by cases h
  | .dct _ :: _, _, h => by cases h
  | .set _ :: _, _, h => by cases h
  | .obj _ _ :: _, _, h => by cases h
  | .ref _ :: _, _, h => by cases h
theorem strs_eq : ∀ {xs : List D} {ns : List Str}, strsOf xs = some ns → xs = ns.map D.str
  | [], ns, h => by cases h; rfl
  | .str i :: r, ns, h => by
    unfold strsOf at h
    cases e : strsOf r with
    | none => rw [e] at h; cases h
    | some ms => rw [e] at h; cases h; rw [strs_eq e]; rfl
  | .non :: _, _, h => by cases h
  | .int _ :: _, _, h => by cases h
  | .bl _ :: _, _, h => by cases h
  | .lst _ :: _, _, h => by cases h
  | .tup _ :: _, _, h => by cases h
  | .dct _ :: _, _, h => by cases h
  | .set _ :: _, _, h => by cases h
  | .obj _ _ :: _, _, h => by cases h
  | .ref _ :: _, _, h => by cases h
theorem ints_map (ns : List Int) : intsOf (ns.map D.int) = some ns := by
  induction ns with
  | nil => rfl
  | cons n r ih => simp [intsOf, ih]
theorem bls_map (ns : List Bool) : blsOf (ns.map D.bl) = some ns := by
  induction ns with
  | nil => rfl
  | cons n r ih => simp [blsOf, ih]
theorem strs_map (ns : List Str) : strsOf (ns.map D.str) = some ns := by
  induction ns with
  | nil => rfl
  | cons n r ih => simp [strsOf, ih]
theorem maxI_of : ∀ {ns : List Int} {m : Int}, m ∈ ns → (∀ y ∈ ns, y ≤ m) → maxI ns = m
  | [x], m, h, _ => by simp at h; rw [h]; rfl
  | x :: y :: r, m, h, h2 => by
    have hx := h2 x (by simp)
    show Max.max x (maxI (y :: r)) = m
    by_cases e : m ∈ y :: r
    · rw [maxI_of e fun z hz => h2 z (List.mem_cons_of_mem _ hz)]; omega
    · have : m = x := by
        rcases List.mem_cons.mp h with z | z
        · exact z
        · exact absurd z e
      subst this
      have key : ∀ l : List Int, l ≠ [] → (∀ z ∈ l, z ≤ m) → maxI l ≤ m := by
        intro l
        induction l with
        | nil => intro h; exact absurd rfl h
        | cons a t ih =>
          intro _ h
          cases t with
          | nil => exact h a (by simp)
          | cons b t =>
            have h1 := h a (by simp)
            have h2 := ih (by simp) fun z hz => h z (List.mem_cons_of_mem _ hz)
            show Max.max a (maxI (b :: t)) ≤ m
            omega
      have := key (y :: r) (by simp) fun z hz => h2 z (List.mem_cons_of_mem _ hz)
      omega
theorem minI_of : ∀ {ns : List Int} {m : Int}, m ∈ ns → (∀ y ∈ ns, m ≤ y) → minI ns = m
  | [x], m, h, _ => by simp at h; rw [h]; rfl
  | x :: y :: r, m, h, h2 => by
    have hx := h2 x (by simp)
    show Min.min x (minI (y :: r)) = m
    by_cases e : m ∈ y :: r
    · rw [minI_of e fun z hz => h2 z (List.mem_cons_of_mem _ hz)]; omega
    · have : m = x := by
        rcases List.mem_cons.mp h with z | z
        · exact z
        · exact absurd z e
      subst this
      have key : ∀ l : List Int, l ≠ [] → (∀ z ∈ l, m ≤ z) → m ≤ minI l := by
        intro l
        induction l with
        | nil => intro h; exact absurd rfl h
        | cons a t ih =>
          intro _ h
          cases t with
          | nil => exact h a (by simp)
          | cons b t =>
            have h1 := h a (by simp)
            have h2 := ih (by simp) fun z hz => h z (List.mem_cons_of_mem _ hz)
            show m ≤ Min.min a (minI (b :: t))
            omega
      have := key (y :: r) (by simp) fun z hz => h2 z (List.mem_cons_of_mem _ hz)
      omega
end Bi
theorem noEx_opt {α β : Type} {o : Option α} {k : α → M β} (h : ∀ a, NoEx (k a)) : NoEx (Bi.opt o k) := by
  unfold Bi.opt; split
  · exact h _
  · exact noEx_bad
theorem Mp.opt {α ω δ : Type} {K : PySem.W.Frag} {Rl : Rel ω δ} {o : Option α} {k : α → M δ} {H : Hp} {g : Gh} {s : Sto} {Q : ω → Hp → Prop} {W : Value → Option Addr → Hp → Prop} (h : Mp K Rl (Bi.opt o k) H g s Q W) : ∃ a, o = some a ∧ Mp K Rl (k a) H g s Q W := by
  unfold Bi.opt at h
  split at h
  · exact ⟨_, rfl, h⟩
  · exact h.elim
theorem nx_len (ds : List D) : NoEx (Bi.len ds) := by unfold Bi.len; split <;> first | exact noEx_pure _ | exact noEx_bad | exact noEx_ite (noEx_pure _) noEx_bad
theorem nx_abs (ds : List D) : NoEx (Bi.abs ds) := by unfold Bi.abs; split <;> first | exact noEx_pure _ | exact noEx_bad
theorem nx_int (ds : List D) : NoEx (Bi.int ds) := by unfold Bi.int; split <;> first | exact noEx_pure _ | exact noEx_bad | exact noEx_ite (noEx_opt fun _ => noEx_pure _) noEx_bad
theorem nx_str (ds : List D) : NoEx (Bi.str ds) := by unfold Bi.str; split <;> first | exact noEx_pure _ | exact noEx_bad | exact noEx_ite (noEx_pure _) noEx_bad
theorem nx_all (ds : List D) : NoEx (Bi.all ds) := by unfold Bi.all; split <;> first | exact noEx_opt fun _ => noEx_pure _ | exact noEx_bad
theorem nx_any (ds : List D) : NoEx (Bi.any ds) := by unfold Bi.any; split <;> first | exact noEx_opt fun _ => noEx_pure _ | exact noEx_bad
theorem nx_sum (ds : List D) : NoEx (Bi.sum ds) := by unfold Bi.sum; split <;> first | exact noEx_opt fun _ => noEx_pure _ | exact noEx_bad
theorem nx_max (ds : List D) : NoEx (Bi.max ds) := by unfold Bi.max; split <;> first | exact noEx_pure _ | exact noEx_opt fun _ => noEx_ite (noEx_pure _) noEx_bad | exact noEx_bad
theorem nx_min (ds : List D) : NoEx (Bi.min ds) := by unfold Bi.min; split <;> first | exact noEx_pure _ | exact noEx_opt fun _ => noEx_ite (noEx_pure _) noEx_bad | exact noEx_bad
theorem nx_list (ds : List D) : NoEx (Bi.list ds) := by unfold Bi.list; split <;> first | exact noEx_pure _ | exact noEx_bad
theorem nx_tuple (ds : List D) : NoEx (Bi.tuple ds) := by unfold Bi.tuple; split <;> first | exact noEx_pure _ | exact noEx_bad
section
variable {X : Cx}
theorem cd_len : CallD X (.builtin "len") Bi.len := by
  intro pins s σ H xs us Q I r ⟨g, st, ds, sr, b, q⟩
  unfold Bi.len at q
  split at q
  · cases b with
    | cons b bn =>
      cases bn
      obtain ⟨a, vs, rfl, hl, rl⟩ := b.lst sr
      exact call_len_seq pins s σ H _ us Q I r ⟨_, _, rfl, .inl hl, by rw [rl.length]; exact Mp.pure q sr (.int _)⟩
  · cases b with
    | cons b bn =>
      cases bn
      obtain ⟨a, vs, rfl, hl, rl⟩ := b.tup sr
      exact call_len_seq pins s σ H _ us Q I r ⟨_, _, rfl, .inr hl, by rw [rl.length]; exact Mp.pure q sr (.int _)⟩
  · cases b with
    | cons b bn =>
      cases bn
      obtain ⟨a, vs, rfl, hl, rl⟩ := b.dct sr
      have e : ∀ {kvs : List (Key × V)} {es : List (D × D)} {fi : List Addr} {hb : Hp}, RepK X.K fi hb kvs es → kvs.length = es.length := by
        intro kvs es fi hb r
        induction kvs generalizing es with
        | nil => cases r; rfl
        | cons k kvs ih => cases r with | cons _ _ r => simp [ih r]
      exact call_lenD pins s σ H _ us Q I r ⟨_, _, rfl, hl, by rw [e rl]; exact Mp.pure q sr (.int _)⟩
  · cases b with
    | cons b bn =>
      cases bn
      have := b.str
      subst this
      obtain ⟨c, q⟩ := Mp.ite q
      exact call_len_str pins s σ H _ us Q I r ⟨_, rfl, lenOk_le c, Mp.pure q sr (.int _)⟩
  · exact q.elim
theorem cd_abs : CallD X (.builtin "abs") Bi.abs := by
  intro pins s σ H xs us Q I r ⟨g, st, ds, sr, b, q⟩
  unfold Bi.abs at q
  split at q
  · cases b with
    | cons b bn =>
      cases bn
      have := b.int
      subst this
      exact call_abs pins s σ H _ us Q I r ⟨_, rfl, Mp.pure q sr (.int _)⟩
  · exact q.elim
theorem cd_int : CallD X (.type "int") Bi.int := by
  intro pins s σ H xs us Q I r ⟨g, st, ds, sr, b, q⟩
  unfold Bi.int at q
  split at q
  · cases b with
    | cons b bn =>
      cases bn
      have := b.int
      subst this
      exact call_int1 pins s σ H _ us Q I r (.inl ⟨_, rfl, Mp.pure q sr (.int _)⟩)
  · cases b with
    | cons b bn =>
      cases bn
      have := b.bl
      subst this
      exact call_int1 pins s σ H _ us Q I r (.inr ⟨_, rfl, Mp.pure q sr (.int _)⟩)
  · cases b with
    | cons b bn =>
      cases bn
      have := b.str
      subst this
      obtain ⟨c, q⟩ := Mp.ite q
      obtain ⟨n, hn, q⟩ := Mp.opt q
      exact call_int_str pins s σ H _ us Q I r ⟨_, n, rfl, hn, of_decide_eq_true c, Mp.pure q sr (.int _)⟩
  · exact q.elim
theorem cd_str : CallD X (.type "str") Bi.str := by
  intro pins s σ H xs us Q I r ⟨g, st, ds, sr, b, q⟩
  unfold Bi.str at q
  split at q
  · cases b with
    | cons b bn =>
      cases bn
      have := b.int
      subst this
      obtain ⟨c, q⟩ := Mp.ite q
      exact call_str_int pins s σ H _ us Q I r ⟨_, rfl, of_decide_eq_true c, Mp.pure q sr (.str _)⟩
  · cases b with
    | cons b bn =>
      cases bn
      have := b.str
      subst this
      exact SkE.call_str_str pins s σ H _ us Q I r ⟨_, rfl, Mp.pure q sr (.str _)⟩
  · exact q.elim
theorem cd_all (hc : X.calm = true) : CallD X (.builtin "all") Bi.all := by
  intro pins s σ H xs us Q I r ⟨g, st, ds, sr, b, q⟩
  unfold Bi.all at q
  split at q
  · cases b with
    | cons b bn =>
      cases bn
      obtain ⟨bs, hb, q⟩ := Mp.opt q
      rw [Bi.bls_eq hb] at b
      obtain ⟨a, vs, rfl, hl, rl⟩ := b.lst sr
      rw [rl.bls] at hl
      exact cr_all hc pins s σ H _ us Q I r ⟨_, _, rfl, hl, Mp.pure q sr (.bl _)⟩
  · exact q.elim
theorem cd_any (hc : X.calm = true) : CallD X (.builtin "any") Bi.any := by
  intro pins s σ H xs us Q I r ⟨g, st, ds, sr, b, q⟩
  unfold Bi.any at q
  split at q
  · cases b with
    | cons b bn =>
      cases bn
      obtain ⟨bs, hb, q⟩ := Mp.opt q
      rw [Bi.bls_eq hb] at b
      obtain ⟨a, vs, rfl, hl, rl⟩ := b.lst sr
      rw [rl.bls] at hl
      exact cr_any hc pins s σ H _ us Q I r ⟨_, _, rfl, hl, Mp.pure q sr (.bl _)⟩
  · exact q.elim
theorem cd_sum (hc : X.calm = true) : CallD X (.builtin "sum") Bi.sum := by
  intro pins s σ H xs us Q I r ⟨g, st, ds, sr, b, q⟩
  unfold Bi.sum at q
  split at q
  · cases b with
    | cons b bn =>
      cases bn
      obtain ⟨bs, hb, q⟩ := Mp.opt q
      rw [Bi.ints_eq hb] at b
      obtain ⟨a, vs, rfl, hl, rl⟩ := b.lst sr
      rw [rl.ints] at hl
      exact cr_sum hc pins s σ H _ us Q I r ⟨_, _, rfl, hl, Mp.pure q sr (.int _)⟩
  · exact q.elim
theorem cd_max (hc : X.calm = true) : CallD X (.builtin "max") Bi.max := by
  intro pins s σ H xs us Q I r ⟨g, st, ds, sr, b, q⟩
  unfold Bi.max at q
  split at q
  · cases b with
    | cons b bn =>
      cases bn with
      | cons b2 bn =>
        cases bn
        have := b.int
        subst this
        have := b2.int
        subst this
        exact call_max2 hc pins s σ H _ us Q I r ⟨_, _, rfl, Mp.pure q sr (.int _)⟩
  · cases b with
    | cons b bn =>
      cases bn
      obtain ⟨bs, hb, q⟩ := Mp.opt q
      obtain ⟨c, q⟩ := Mp.ite q
      rw [Bi.ints_eq hb] at b
      obtain ⟨a, vs, rfl, hl, rl⟩ := b.lst sr
      rw [rl.ints] at hl
      exact cr_max hc pins s σ H _ us Q I r ⟨_, _, rfl, hl, of_decide_eq_true c, fun m h1 h2 => by rw [Bi.maxI_of h1 h2] at q; exact Mp.pure q sr (.int _)⟩
  · exact q.elim
theorem cd_min (hc : X.calm = true) : CallD X (.builtin "min") Bi.min := by
  intro pins s σ H xs us Q I r ⟨g, st, ds, sr, b, q⟩
  unfold Bi.min at q
  split at q
  · cases b with
    | cons b bn =>
      cases bn with
      | cons b2 bn =>
        cases bn
        have := b.int
        subst this
        have := b2.int
        subst this
        exact call_min2 hc pins s σ H _ us Q I r ⟨_, _, rfl, Mp.pure q sr (.int _)⟩
  · cases b with
    | cons b bn =>
      cases bn
      obtain ⟨bs, hb, q⟩ := Mp.opt q
      obtain ⟨c, q⟩ := Mp.ite q
      rw [Bi.ints_eq hb] at b
      obtain ⟨a, vs, rfl, hl, rl⟩ := b.lst sr
      rw [rl.ints] at hl
      exact cr_min hc pins s σ H _ us Q I r ⟨_, _, rfl, hl, of_decide_eq_true c, fun m h1 h2 => by rw [Bi.minI_of h1 h2] at q; exact Mp.pure q sr (.int _)⟩
  · exact q.elim
theorem cd_list : CallD X (.type "list") Bi.list := by
  intro pins s σ H xs us Q I r ⟨g, st, ds, sr, b, q⟩
  unfold Bi.list at q
  split at q
  · cases b with
    | cons b bn =>
      cases bn
      obtain ⟨a, vs, rfl, hl, rl⟩ := b.lst sr
      exact call_list_of pins s σ H _ us Q I r ⟨_, _, rfl, .inl hl, fun p hp => Mp.newL q sr rl hp⟩
  · cases b with
    | cons b bn =>
      cases bn
      obtain ⟨a, vs, rfl, hl, rl⟩ := b.tup sr
      exact call_list_of pins s σ H _ us Q I r ⟨_, _, rfl, .inr hl, fun p hp => Mp.newL q sr rl hp⟩
  · exact q.elim
theorem cd_tuple : CallD X (.type "tuple") Bi.tuple := by
  intro pins s σ H xs us Q I r ⟨g, st, ds, sr, b, q⟩
  unfold Bi.tuple at q
  split at q
  · cases b with
    | cons b bn =>
      cases bn
      obtain ⟨a, vs, rfl, hl, rl⟩ := b.lst sr
      exact call_tuple_of pins s σ H _ us Q I r ⟨_, _, rfl, .inl ⟨hl, fun p hp => Mp.newT q sr rl hp⟩⟩
  · cases b with
    | cons b bn =>
      cases bn
      obtain ⟨a, vs, rfl, hl, rl⟩ := b.tup sr
      refine call_tuple_of pins s σ H _ us Q I r ⟨_, _, rfl, .inr ⟨hl, ?_⟩⟩
      rcases b with b | ⟨c, e, o, _⟩
      · exact Mp.pure q sr b
      · exact o.elim
  · exact q.elim
end

/-! ### methods of texts -/
namespace Me
def isStr : D → M Unit
  | .str _ => pure ()
  | _ => M.bad
def find : D → List D → M D
  | .str a, [.str b] => pure (.int (Txt.find a b))
  | _, _ => M.bad
def split : D → List D → M D
  | .str a, [.str b] => if decide ((b.length == 0) = false ∧ a.length + 2 ≤ 16777216) then pure (.lst ((Txt.split a b).map D.str)) else M.bad
  | _, _ => M.bad
def partition : D → List D → M D
  | .str a, [.str b] => if decide ((b.length == 0) = false ∧ a.length ≤ 16777216) then pure (.tup [.str (Txt.partition a b).1, .str (Txt.partition a b).2.1, .str (Txt.partition a b).2.2]) else M.bad
  | _, _ => M.bad
def join : D → List D → M D
  | .str a, [.lst xs] => Bi.opt (Bi.strsOf xs) fun ys => if decide ((ys.map (·.length)).sum + ys.length * a.length ≤ 16777216) then pure (.str (Txt.join a ys)) else M.bad
  | .str a, [.tup xs] => Bi.opt (Bi.strsOf xs) fun ys => if decide ((ys.map (·.length)).sum + ys.length * a.length ≤ 16777216) then pure (.str (Txt.join a ys)) else M.bad
  | _, _ => M.bad
def startswith : D → List D → M D
  | .str a, [.str b] => pure (.bl (Txt.startswith a b))
  | _, _ => M.bad
end Me
theorem nx_isStr (d : D) : NoEx (Me.isStr d) := by unfold Me.isStr; split; exact noEx_pure _; exact noEx_bad
theorem nx_find (d : D) (ds : List D) : NoEx (Me.find d ds) := by unfold Me.find; split; exact noEx_pure _; exact noEx_bad
theorem nx_startswith (d : D) (ds : List D) : NoEx (Me.startswith d ds) := by unfold Me.startswith; split; exact noEx_pure _; exact noEx_bad
theorem nx_split (d : D) (ds : List D) : NoEx (Me.split d ds) := by unfold Me.split; split; exact noEx_ite (noEx_pure _) noEx_bad; exact noEx_bad
theorem nx_partition (d : D) (ds : List D) : NoEx (Me.partition d ds) := by unfold Me.partition; split; exact noEx_ite (noEx_pure _) noEx_bad; exact noEx_bad
theorem nx_join (d : D) (ds : List D) : NoEx (Me.join d ds) := by unfold Me.join; split <;> first | exact noEx_opt fun _ => noEx_ite (noEx_pure _) noEx_bad | exact noEx_bad
section
variable {X : Cx} {W : WX} {env : EnvD}
def MtD (X : Cx) (id : String) (f : D → List D → M D) : Prop := MtR X id fun x xs H Q => ∃ g s d ds, SR X.K H g s ∧ Bor X.K g H x d ∧ BorL X.K g H xs ds ∧ Mp X.K (RS X.K) (f d ds) H g s Q fun _ _ _ => False
theorem je_strM {o e : Expr} {es : List Expr} {name : Str} {apos cpos : Pos} {id : String} {f : D → List D → M D} {mo : M D} {m : M (List D)} (slot : Slot "str" name id) (hty : typeOf (.builtin id) = pure (.type "method_descriptor")) (hm : MtD X id f) (nx : ∀ d ds, NoEx (f d ds)) (ho : JB X W env o mo) (ha : JAb X W env (e :: es) m)
    (hbase : attributeBase o name X.env (eval o X.env) = eval o X.env := by rfl)
    (hfew : ((backTo cpos (starEach (e :: es) X.env)).all (fun x => !x.1) && (backToKw cpos (keywordEach [] X.env)).all (fun x => x.1.isSome)
      && decide ((e :: es).length + ([] : List Keyword).length + (if ([] : List Keyword).isEmpty then 0 else 1) < 30)) = true := by rfl)
    (hline : (apos.endLine == cpos.line) = true := by rfl) (hs : starEach (e :: es) X.env = (false, eval e X.env) :: starEach es X.env := by rfl) (hplain : (backTo cpos (starEach es X.env)).any (·.1) = false := by rfl) :
    JE X W env (.Call (.Attribute o name apos) (e :: es) [] cpos) (mo >>= fun d => Me.isStr d >>= fun _ => m >>= fun ds => f d ds) :=
  PE.imp (pe_bm PySem.F.plainAttrs_str slot hty hm ho ha hbase hfew hline hs hplain) fun σ H Q ⟨g, s, sr, eo, q⟩ => tX.bind sr eo q fun d s1 v H1 g1 st sr1 eo1 r q1 => by
    unfold Me.isStr at q1
    split at q1
    · have := r.str
      subst this
      refine ⟨rfl, tX.bind sr1 eo1 q1 fun ds s2 vs H2 g2 st2 sr2 eo2 rs q2 => ⟨g2, s2, _, ds, sr2, r.step st2, rs, (nx _ _).mp q2⟩⟩
    · exact q1.elim
theorem RepL.strsOf' {K : PySem.W.Frag} {fi : List Addr} {hb : Hp} (ys : List Str) : RepL K fi hb (ys.map V.str) (ys.map D.str) := RepL.ofStrs
theorem md_find : MtD X "str.find" Me.find := by
  intro pins s σ H x xs v us Q I rx rs ⟨g, st, d, ds, sr, bx, b, q⟩
  unfold Me.find at q
  split at q
  · cases b with
    | cons b bn =>
      cases bn
      have := bx.str; subst this
      have := b.str; subst this
      exact mt_find pins s σ H _ _ v us Q I rx rs ⟨_, _, rfl, rfl, Mp.pure q sr (.int _)⟩
  · exact q.elim
theorem md_startswith : MtD X "str.startswith" Me.startswith := by
  intro pins s σ H x xs v us Q I rx rs ⟨g, st, d, ds, sr, bx, b, q⟩
  unfold Me.startswith at q
  split at q
  · cases b with
    | cons b bn =>
      cases bn
      have := bx.str; subst this
      have := b.str; subst this
      exact mt_startswith pins s σ H _ _ v us Q I rx rs ⟨_, _, rfl, rfl, Mp.pure q sr (.bl _)⟩
  · exact q.elim
theorem md_split : MtD X "str.split" Me.split := by
  intro pins s σ H x xs v us Q I rx rs ⟨g, st, d, ds, sr, bx, b, q⟩
  unfold Me.split at q
  split at q
  · cases b with
    | cons b bn =>
      cases bn
      have := bx.str; subst this
      have := b.str; subst this
      obtain ⟨c, q⟩ := Mp.ite q
      obtain ⟨c1, c2⟩ := of_decide_eq_true c
      exact mt_split pins s σ H _ _ v us Q I rx rs ⟨_, _, rfl, rfl, c1, by rw [sizeLine_eq]; exact c2, fun p hp => Mp.newL q sr (RepL.strsOf' _) hp⟩
  · exact q.elim
theorem md_partition : MtD X "str.partition" Me.partition := by
  intro pins s σ H x xs v us Q I rx rs ⟨g, st, d, ds, sr, bx, b, q⟩
  unfold Me.partition at q
  split at q
  · cases b with
    | cons b bn =>
      cases bn
      have := bx.str; subst this
      have := b.str; subst this
      obtain ⟨c, q⟩ := Mp.ite q
      obtain ⟨c1, c2⟩ := of_decide_eq_true c
      exact mt_partition pins s σ H _ _ v us Q I rx rs ⟨_, _, rfl, rfl, c1, by rw [sizeLine_eq]; exact c2, fun p hp => Mp.newT q sr (.cons (.str _) (.cons (.str _) (.cons (.str _) .nil))) hp⟩
  · exact q.elim
theorem md_join : MtD X "str.join" Me.join := by
  intro pins s σ H x xs v us Q I rx rs ⟨g, st, d, ds, sr, bx, b, q⟩
  unfold Me.join at q
  split at q
  · cases b with
    | cons b bn =>
      cases bn
      have := bx.str; subst this
      obtain ⟨ys, hy, q⟩ := Mp.opt q
      obtain ⟨c, q⟩ := Mp.ite q
      rw [Bi.strs_eq hy] at b
      obtain ⟨a, vs, rfl, hl, rl⟩ := b.lst sr
      rw [rl.strs] at hl
      exact mt_join pins s σ H _ _ v us Q I rx rs ⟨_, _, ys, rfl, rfl, .inl hl, of_decide_eq_true c, Mp.pure q sr (.str _)⟩
  · cases b with
    | cons b bn =>
      cases bn
      have := bx.str; subst this
      obtain ⟨ys, hy, q⟩ := Mp.opt q
      obtain ⟨c, q⟩ := Mp.ite q
      rw [Bi.strs_eq hy] at b
      obtain ⟨a, vs, rfl, hl, rl⟩ := b.tup sr
      rw [rl.strs] at hl
      exact mt_join pins s σ H _ _ v us Q I rx rs ⟨_, _, ys, rfl, rfl, .inr hl, of_decide_eq_true c, Mp.pure q sr (.str _)⟩
  · exact q.elim

/-! ### isinstance -/
/-- the name of a value's built-in type -/
def tyName : D → Option String
  | .non => some "NoneType"
  | .bl _ => some "bool"
  | .int _ => some "int"
  | .str _ => some "str"
  | .lst _ => some "list"
  | .tup _ => some "tuple"
  | .dct _ => some "dict"
  | _ => none
def isiTab (t T : String) : Bool := t == T || (t == "bool" && T == "int")
def Bi.isi (T : String) (d : D) : M D := Bi.opt (tyName d) fun t => pure (.bl (isiTab t T))
theorem nx_isi (T : String) (d : D) : NoEx (Bi.isi T d) := noEx_opt fun _ => noEx_pure _
theorem tyX_of {K : PySem.W.Frag} {H : Hp} {g : Gh} {s : Sto} {v : V} {d : D} {t : String} (b : Bor K g H v d) (sr : SR K H g s) (h : tyName d = some t) : TyX K H v (.type t) := by
  cases d with
  | non => rw [b.non]; cases h; exact .base .non
  | bl x => rw [b.bl]; cases h; exact .base (.bl x)
  | int x => rw [b.int]; cases h; exact .base (.int x)
  | str x => rw [b.str]; cases h; exact .base (.str x)
  | lst x =>
    cases h
    obtain ⟨a, vs, rfl, hl, _⟩ := b.lst sr
    rcases hl with (h | ⟨o, h⟩) | ⟨o, its, n, h, c, _⟩
    · exact .base (.lst h)
    · exact .base (.frz h)
    · exact .kList h c
  | tup x =>
    cases h
    obtain ⟨a, vs, rfl, hl, _⟩ := b.tup sr
    rcases hl with (h | ⟨o, h⟩) | ⟨o, its, n, h, c, _⟩
    · exact .base (.tup h)
    · exact .fTuple h
    · exact .kTuple h c
  | dct x =>
    cases h
    obtain ⟨a, vs, rfl, hl, _⟩ := b.dct sr
    exact .base (.dK hl)
  | _ => cases h
def tyNames : List String := ["NoneType", "bool", "int", "str", "list", "tuple", "dict"]
theorem tyName_mem {d : D} {t : String} (h : tyName d = some t) : t ∈ tyNames := by
  cases d <;> simp [tyName] at h <;> subst h <;> decide
theorem kit_tab : ∀ t ∈ tyNames, ∀ T ∈ ["bool", "int", "str", "list", "tuple", "dict"], kitB t T = some (isiTab t T) := by decide +kernel
theorem je_isi {T : String} {Tn : Str} {p p2 pos : Pos} {e : Expr} {m : M D} (hT : T ∈ ["bool", "int", "str", "list", "tuple", "dict"]) (hg : Gl X "isinstance") (hm : X.mg "isinstance" = none) (hgT : Gl X Tn) (hmT : X.mg Tn = none) (hvT : bootBuiltins Tn = some (.type T)) (h : JB X W env e m)
    (hnT : Tn ≠ "__name__" := by decide) (hdT : (Tn == ("__debug__" : Str)) = false := by decide)
    (hs1 : starEach [e, .Name Tn p2] X.env = (false, eval e X.env) :: starEach [.Name Tn p2] X.env := by rfl) (hs2 : starEach [.Name Tn p2] X.env = (false, eval (.Name Tn p2) X.env) :: starEach [] X.env := by rfl)
    (hpl : (backTo pos (starEach [.Name Tn p2] X.env)).any (·.1) = false := by rfl) : JE X W env (.Call (.Name "isinstance" p) [e, .Name Tn p2] [] pos) (m >>= Bi.isi T) :=
  PE.imp (pe_callB call_isi hg hm (by decide +kernel) (pa_cons h (pa_cons (pe_bltn (v := .ty T) hgT hmT hvT rfl hnT hdT) pa_nil hs2) hs1) (by decide) (by decide) hs1 hpl) fun σ H Q ⟨g, s, sr, eo, q⟩ => tX.bind sr eo q fun d s1 v H1 g1 st sr1 eo1 r q1 => by
    obtain ⟨t, ht, q1⟩ := Mp.opt q1
    exact ⟨v, .ty T, .type t, .type T, _, rfl, .ty T, tyX_of r sr1 ht, kit_ty (kit_tab t (tyName_mem ht) T hT), Mp.pure q1 sr1 (.bl _)⟩
end
end DL

set_option maxRecDepth 100000
set_option autoImplicit false
/-! DL7: what is walked; targets; comprehensions. -/
namespace DL
open PySem PySem.Spec PyProof.Rows L2
/-! ### what is walked -/
/-- whatever happens later (own lists changed too), J yields what ds are -/
def Walks (K : PySem.W.Frag) (g1 : Gh) (J : It) (ds : List D) : Prop := ∀ H' g', Sub g1.hb g'.hb → Pre g1.fi g'.fi → Sub g'.hb H' →
  (∀ i d, ds[i]? = some d → J.go i H' ∧ ∀ x H'', J.yld i H' x H'' → ∃ g'', Step H' g' H'' g'' ∧ (∀ s, SR K H' g' s → SR K H'' g'' s) ∧ Rep K g''.fi g''.hb x d) ∧ ∀ i, ds.length ≤ i → J.stop i H'
/-- .. where only steps happen -/
def WalksB (K : PySem.W.Frag) (H1 : Hp) (g1 : Gh) (J : It) (ds : List D) : Prop := ∀ H' g', Step H1 g1 H' g' → Sub g'.hb H' →
  (∀ i d, ds[i]? = some d → J.go i H' ∧ ∀ x H'', J.yld i H' x H'' → ∃ g'', Step H' g' H'' g'' ∧ (∀ s, SR K H' g' s → SR K H'' g'' s) ∧ Rep K g''.fi g''.hb x d) ∧ ∀ i, ds.length ≤ i → J.stop i H'
theorem Walks.b {K : PySem.W.Frag} {H1 : Hp} {g1 : Gh} {J : It} {ds : List D} (h : Walks K g1 J ds) : WalksB K H1 g1 J ds := fun H' g' st sb => h H' g' st.hb st.fi sb
def iX (K : PySem.W.Frag) (W : WX) (env : EnvD) (m : M (List D)) : TI := fun σ H R => ∃ g sto, SR K H g sto ∧ EnvOk K H g σ env ∧ (m sto).post (fun ds s1 => ∀ H1 g1 J, Step H g H1 g1 → SR K H1 g1 s1 → Walks K g1 J ds → R J H1) (exP K H g fun c dx H' => W c dx σ H')
def iXB (K : PySem.W.Frag) (W : WX) (env : EnvD) (m : M (List D)) : TI := fun σ H R => ∃ g sto, SR K H g sto ∧ EnvOk K H g σ env ∧ (m sto).post (fun ds s1 => ∀ H1 g1 J, Step H g H1 g1 → SR K H1 g1 s1 → WalksB K H1 g1 J ds → R J H1) (exP K H g fun c dx H' => W c dx σ H')
abbrev JI (X : Cx) (W : WX) (env : EnvD) (tg e : Expr) (m : M (List D)) : Prop := PI X tg e (iX X.K W env m)
abbrev JIb (X : Cx) (W : WX) (env : EnvD) (tg e : Expr) (m : M (List D)) : Prop := PI X tg e (iXB X.K W env m)
section
variable {X : Cx} {W : WX} {env : EnvD} {tg e : Expr}
theorem PI.imp {t t' : TI} (h : PI X tg e t) (i : ∀ σ H R, t' σ H R → t σ H R) : PI X tg e t' := ⟨fun pins s σ H R I q => h.run pins s σ H R I (i σ H R q)⟩
theorem JI.b {m : M (List D)} (h : JI X W env tg e m) : JIb X W env tg e m := PI.imp h fun σ H R ⟨g, s, sr, eo, q⟩ => ⟨g, s, sr, eo, Res.post.imp q (fun _ _ x H1 g1 J st sr1 w => x H1 g1 J st sr1 w.b) fun _ _ _ x => x⟩
/-- a list, a tuple, a text -/
def iAny (K : PySem.W.Frag) (tl : TE) : TI := fun σ H R => tl σ H fun x H1 => (∃ a, x = .ref a ∧ (∃ xs, SqL K H1 a xs) ∧ R (Itl K a) H1) ∨ (∃ a, x = .ref a ∧ (∃ xs, SqT K H1 a xs) ∧ R (Itt K a) H1) ∨ ∃ z : Str, x = .str z ∧ R (Its z) H1
end
section
variable {K : PySem.W.Frag} {H : Hp} {g : Gh} {s : Sto}
theorem walks_list {a : Addr} {vs : List V} {ds : List D} (h : SqL K g.hb a vs) (r : RepL K g.fi g.hb vs ds) : Walks K g (Itl K a) ds := fun H' g' hb fi sb => by
  have hs : SqL K H' a vs := SqL.sub h (hb.trans sb)
  refine ⟨fun i d e => ?_, fun i hi => ⟨vs, hs, by rw [r.length]; exact hi⟩⟩
  obtain ⟨v, e1, r1⟩ := r.get e
  refine ⟨⟨vs, v, hs, e1⟩, fun x H'' y => ?_⟩
  obtain ⟨rfl, y⟩ := y
  have := y vs hs
  rw [e1] at this
  cases this
  exact ⟨g', .rfl, fun _ x => x, r1.mono hb fi⟩
theorem walks_tup {a : Addr} {vs : List V} {ds : List D} (h : SqT K g.hb a vs) (r : RepL K g.fi g.hb vs ds) : Walks K g (Itt K a) ds := fun H' g' hb fi sb => by
  have hs : SqT K H' a vs := SqT.sub h (hb.trans sb)
  refine ⟨fun i d e => ?_, fun i hi => ⟨vs, hs, by rw [r.length]; exact hi⟩⟩
  obtain ⟨v, e1, r1⟩ := r.get e
  refine ⟨⟨vs, v, hs, e1⟩, fun x H'' y => ?_⟩
  obtain ⟨rfl, y⟩ := y
  have := y vs hs
  rw [e1] at this
  cases this
  exact ⟨g', .rfl, fun _ x => x, r1.mono hb fi⟩
theorem walks_range {lo : Int} {n : Nat} : Walks K g (Itr lo n) ((List.range n).map fun i => D.int (lo + (i : Nat))) := fun H' g' hb fi sb => by
  refine ⟨fun i d e => ?_, fun i hi => show n ≤ i by simpa using hi⟩
  rw [List.getElem?_map] at e
  by_cases hi : i < n
  · rw [List.getElem?_range hi] at e
    cases e
    refine ⟨hi, fun x H'' y => ?_⟩
    obtain ⟨rfl, rfl⟩ := y
    exact ⟨g', .rfl, fun _ x => x, .int _⟩
  · rw [List.getElem?_eq_none (by simpa using hi)] at e
    cases e
def signs (z : Str) : List D := z.cps.toList.map fun c => D.str ⟨#[c]⟩
theorem walks_str {z : Str} : Walks K g (Its z) (signs z) := fun H' g' hb fi sb => by
  refine ⟨fun i d e => ?_, fun i hi => show z.cps.size ≤ i by simpa [signs] using hi⟩
  unfold signs at e
  rw [List.getElem?_map] at e
  cases h : z.cps.toList[i]? with
  | none => rw [h] at e; cases e
  | some c =>
    rw [h] at e
    cases e
    have h' : z.cps[i]? = some c := by simpa using h
    have hi : i < z.cps.size := by simpa using (List.getElem?_eq_some_iff.mp h).1
    refine ⟨hi, fun x H'' y => ?_⟩
    obtain ⟨rfl, c', e', rfl⟩ := y
    rw [h'] at e'
    cases e'
    exact ⟨g', .rfl, fun _ x => x, .str _⟩
end
/-- what a for walks: a list, a tuple, a text -/
def itemsOf (d : D) : M (List D) := match d with
  | .lst xs => pure xs
  | .tup xs => pure xs
  | .str z => pure (signs z)
  | _ => M.bad
section
variable {X : Cx} {W : WX} {env : EnvD} {tg e : Expr}
theorem pi_any {tl : TE} (hl : PE X e tl) : PI X tg e (iAny X.K tl) := ⟨fun pins s σ H R I h => thn (hl.run pins s σ H _ I h) fun v s1 ⟨x, H1, I1, rx, which⟩ => by
  rcases which with ⟨a, rfl, ⟨xs, sq⟩, fin⟩ | ⟨a, rfl, ⟨xs, sq⟩, fin⟩ | ⟨z, rfl, fin⟩
  · cases rx
    obtain ⟨us, _, is, _⟩ := I1.list sq
    exact wpAny_pyIter_list is.isList (pi_one (tk := s1.toks) I1 _ (turn_list a _) ⟨_, Heap.get?_push_size _ rfl, rfl, rfl⟩ fin)
  · cases rx
    obtain ⟨us, _, is, _⟩ := I1.tuple sq
    exact wpAny_pyIter_tuple (show s1.heap.IsTuple a us.toArray from is) (pi_one (tk := s1.toks) I1 _ (turn_tuple a _) ⟨_, Heap.get?_push_size _ rfl, rfl, rfl⟩ fin)
  · obtain ⟨t, rfl⟩ := rx
    by_cases wide : z.cps.all (· < 128) = true
    · exact wpAny_pyIter_ascii wide (pi_one (tk := s1.toks) I1 _ (turn_str _ z t "str_ascii_iterator" (.inl rfl)) ⟨_, Heap.get?_push_size _ rfl, rfl, rfl⟩ fin)
    · exact wpAny_pyIter_wide (Bool.not_eq_true _ ▸ wide) (pi_one (tk := s1.toks) I1 _ (turn_str _ z t "str_iterator" (.inr rfl)) ⟨_, Heap.get?_push_size _ rfl, rfl, rfl⟩ fin)⟩
theorem ji_any {m : M D} (h : JE X W env e m) : JI X W env tg e (m >>= itemsOf) := by
  refine PI.imp (pi_any h) fun σ H R ⟨g, s, sr, eo, q⟩ => tX.mk sr eo (Res.post.imp (post_bind.mp q) (fun d s1 x v H1 g1 st sr1 eo1 r => ?_) fun _ _ _ x => x)
  cases d with
  | lst ds =>
    cases r with
    | lst hl rl => exact .inl ⟨_, rfl, ⟨_, SqL.sub hl sr1.sub⟩, x H1 g1 _ st sr1 (walks_list hl rl)⟩
  | tup ds =>
    cases r with
    | tup hl rl => exact .inr (.inl ⟨_, rfl, ⟨_, SqT.sub hl sr1.sub⟩, x H1 g1 _ st sr1 (walks_tup hl rl)⟩)
  | str z => cases r; exact .inr (.inr ⟨z, rfl, x H1 g1 _ st sr1 walks_str⟩)
  | _ => exact x.elim
/-- of one's own list, where only steps happen -/
theorem jib_any {m : M D} (h : JB X W env e m) : JIb X W env tg e (m >>= itemsOf) := by
  refine PI.imp (pi_any h) fun σ H R ⟨g, s, sr, eo, q⟩ => tX.mk sr eo (Res.post.imp (post_bind.mp q) (fun d s1 x v H1 g1 st sr1 eo1 r => ?_) fun _ _ _ x => x)
  rcases r with r | ⟨a, rfl, o, nb, nf⟩
  · cases d with
    | lst ds =>
      cases r with
      | lst hl rl => exact .inl ⟨_, rfl, ⟨_, SqL.sub hl sr1.sub⟩, x H1 g1 _ st sr1 (walks_list hl rl).b⟩
    | tup ds =>
      cases r with
      | tup hl rl => exact .inr (.inl ⟨_, rfl, ⟨_, SqT.sub hl sr1.sub⟩, x H1 g1 _ st sr1 (walks_tup hl rl).b⟩)
    | str z => cases r; exact .inr (.inr ⟨z, rfl, x H1 g1 _ st sr1 walks_str.b⟩)
    | _ => exact x.elim
  · cases d with
    | lst ds =>
      obtain ⟨vs, h1, rl⟩ := o
      refine .inl ⟨_, rfl, ⟨_, SqL.of h1⟩, x H1 g1 _ st sr1 fun H' g' st' sb => ?_⟩
      have h2 : SqL X.K H' a vs := SqL.of (st'.frame _ _ h1 nf)
      refine ⟨fun i d e => ?_, fun i hi => ⟨vs, h2, by rw [rl.length]; exact hi⟩⟩
      obtain ⟨v, e1, r1⟩ := rl.get e
      refine ⟨⟨vs, v, h2, e1⟩, fun x H'' y => ?_⟩
      obtain ⟨rfl, y⟩ := y
      have := y vs h2
      rw [e1] at this
      cases this
      exact ⟨g', .rfl, fun _ x => x, r1.mono st'.hb st'.fi⟩
    | tup ds => exact o.elim
    | str z => exact o.elim
    | _ => exact x.elim
def rangeOk (i : Int) : Bool := decide (-(2 ^ 62) ≤ i ∧ i < 2 ^ 62)
theorem rangeOk_of {i : Int} (h : rangeOk i = true) : -(2 ^ 62) ≤ i ∧ i < 2 ^ 62 := of_decide_eq_true h
def rng1 : List D → M (List D)
  | [.int j] => if rangeOk j then pure ((List.range j.toNat).map fun i => D.int (0 + (i : Nat))) else M.bad
  | _ => M.bad
def rng2 : List D → M (List D)
  | [.int i, .int j] => if rangeOk i && rangeOk j then pure ((List.range (j - i).toNat).map fun k => D.int (i + (k : Nat))) else M.bad
  | _ => M.bad
theorem BorL.one {K : PySem.W.Frag} {g : Gh} {H : Hp} {vs : List V} {i : Int} (b : BorL K g H vs [.int i]) : vs = [.int i] := by
  cases b with
  | cons b bn => cases bn; rw [b.int]
theorem BorL.two {K : PySem.W.Frag} {g : Gh} {H : Hp} {vs : List V} {i j : Int} (b : BorL K g H vs [.int i, .int j]) : vs = [.int i, .int j] := by
  cases b with
  | cons b bn =>
    cases bn with
    | cons b2 bn => cases bn; rw [b.int, b2.int]
theorem ji_range1 {a : Expr} {p pos : Pos} {m : M (List D)} (hg : Gl X "range") (hm : X.mg "range" = none) (ha : JAb X W env [a] m) (hs : starEach [a] X.env = [(false, eval a X.env)] := by rfl) : JI X W env tg (.Call (.Name "range" p) [a] [] pos) (m >>= rng1) := by
  refine PI.imp (pi_range1 hg hm ha hs) fun σ H R ⟨g, s, sr, eo, q⟩ => tX.mk sr eo (Res.post.imp (post_bind.mp q) (fun d s1 x v H1 g1 st sr1 eo1 r => ?_) fun _ _ _ x => x)
  unfold rng1 at x
  split at x
  · split at x
    · rename_i c
      have c' := rangeOk_of c
      exact ⟨_, r.one, c'.1, c'.2, x H1 g1 _ st sr1 walks_range⟩
    · exact x.elim
  · exact x.elim
theorem ji_range2 {a b : Expr} {p pos : Pos} {m : M (List D)} (hg : Gl X "range") (hm : X.mg "range" = none) (ha : JAb X W env [a, b] m) (hs : starEach [a, b] X.env = [(false, eval a X.env), (false, eval b X.env)] := by rfl) (hs2 : starEach [b] X.env = [(false, eval b X.env)] := by rfl) :
    JI X W env tg (.Call (.Name "range" p) [a, b] [] pos) (m >>= rng2) := by
  refine PI.imp (pi_range2 hg hm ha hs hs2) fun σ H R ⟨g, s, sr, eo, q⟩ => tX.mk sr eo (Res.post.imp (post_bind.mp q) (fun d s1 x v H1 g1 st sr1 eo1 r => ?_) fun _ _ _ x => x)
  unfold rng2 at x
  split at x
  · split at x
    · rename_i c
      obtain ⟨c1, c2⟩ := Bool.and_eq_true_iff.mp c
      have c1' := rangeOk_of c1
      have c2' := rangeOk_of c2
      exact ⟨_, _, r.two, ⟨c1'.1, c1'.2, c2'.1, c2'.2⟩, x H1 g1 _ st sr1 walks_range⟩
    · exact x.elim
  · exact x.elim
end
/-! ### targets -/
def wipeE (env : EnvD) : List Nat → EnvD
  | [] => env
  | v :: vs => (wipeE env vs).set v none
section
variable {K : PySem.W.Frag} {H : Hp} {g : Gh} {σ : SS} {env : EnvD}
theorem EnvOk.set (e : EnvOk K H g σ env) {v : V} {d : D} (r : Rep K g.fi g.hb v d) (i : Nat) : EnvOk K H g (σ.set i (some v)) (env.set i (some (.val d))) := by
  have other : ∀ {j : Nat} {c : C}, (∀ d, c ≠ .val d) → (env.set i (some (.val d)))[j]? = some (some c) → env[j]? = some (some c) ∧ j ≠ i := fun {j c} hc h => by
    by_cases e' : i = j
    · subst e'
      by_cases hl : i < env.length
      · rw [List.getElem?_set_self hl] at h; cases h; exact absurd rfl (hc d)
      · rw [List.getElem?_eq_none (by simpa using hl)] at h; cases h
    · rw [List.getElem?_set_ne e'] at h; exact ⟨h, fun z => e' z.symm⟩
  refine ⟨by simp [e.len], fun j d' h => ?_, fun j d' h => ?_, fun j k d1 d2 a h1 h2 s1 s2 => ?_, fun j a dx fs h => ?_⟩
  · by_cases e' : i = j
    · subst e'
      have hl : i < env.length := by
        by_cases hl : i < env.length
        · exact hl
        · rw [List.getElem?_eq_none (by simpa using hl)] at h; cases h
      rw [List.getElem?_set_self hl] at h
      cases h
      exact ⟨v, List.getElem?_set_self (by rw [← e.len]; exact hl), r⟩
    · rw [List.getElem?_set_ne e'] at h
      obtain ⟨w, h1, r1⟩ := e.val j d' h
      exact ⟨w, by rw [List.getElem?_set_ne e']; exact h1, r1⟩
  · obtain ⟨h', ne⟩ := other (by simp) h
    obtain ⟨a, h1, o⟩ := e.own j d' h'
    exact ⟨a, by rw [List.getElem?_set_ne (Ne.symm ne)]; exact h1, o⟩
  · obtain ⟨h1', n1⟩ := other (by simp) h1
    obtain ⟨h2', n2⟩ := other (by simp) h2
    rw [List.getElem?_set_ne (Ne.symm n1)] at s1
    rw [List.getElem?_set_ne (Ne.symm n2)] at s2
    exact e.dis j k d1 d2 a h1' h2' s1 s2
  · obtain ⟨h', ne⟩ := other (by simp) h
    obtain ⟨h1, x⟩ := e.exc j a dx fs h'
    exact ⟨by rw [List.getElem?_set_ne (Ne.symm ne)]; exact h1, x⟩
theorem EnvOk.forget (e : EnvOk K H g σ env) (i : Nat) : EnvOk K H g (σ.set i none) (env.set i none) := by
  have other : ∀ {j : Nat} {c : C}, (env.set i none)[j]? = some (some c) → env[j]? = some (some c) ∧ j ≠ i := fun {j c} h => by
    by_cases e' : i = j
    · subst e'
      by_cases hl : i < env.length
      · rw [List.getElem?_set_self hl] at h; cases h
      · rw [List.getElem?_eq_none (by simpa using hl)] at h; cases h
    · rw [List.getElem?_set_ne e'] at h; exact ⟨h, fun z => e' z.symm⟩
  refine ⟨by simp [e.len], fun j d' h => ?_, fun j d' h => ?_, fun j k d1 d2 a h1 h2 s1 s2 => ?_, fun j a dx fs h => ?_⟩
  · obtain ⟨h', ne⟩ := other h
    obtain ⟨w, h1, r1⟩ := e.val j d' h'
    exact ⟨w, by rw [List.getElem?_set_ne (Ne.symm ne)]; exact h1, r1⟩
  · obtain ⟨h', ne⟩ := other h
    obtain ⟨a, h1, o⟩ := e.own j d' h'
    exact ⟨a, by rw [List.getElem?_set_ne (Ne.symm ne)]; exact h1, o⟩
  · obtain ⟨h1', n1⟩ := other h1
    obtain ⟨h2', n2⟩ := other h2
    rw [List.getElem?_set_ne (Ne.symm n1)] at s1
    rw [List.getElem?_set_ne (Ne.symm n2)] at s2
    exact e.dis j k d1 d2 a h1' h2' s1 s2
  · obtain ⟨h', ne⟩ := other h
    obtain ⟨h1, x⟩ := e.exc j a dx fs h'
    exact ⟨by rw [List.getElem?_set_ne (Ne.symm ne)]; exact h1, x⟩
theorem EnvOk.wiped (e : EnvOk K H g σ env) : ∀ vs : List Nat, EnvOk K H g (wipe σ vs) (wipeE env vs)
  | [] => e
  | v :: vs => (EnvOk.wiped e vs).forget v
end
theorem wipe_set {σ : SS} {i : Nat} {x : Option V} : ∀ {vs : List Nat}, i ∈ vs → wipe (σ.set i x) vs = wipe σ vs
  | [], h => by cases h
  | v :: vs, h => by
    unfold wipe
    by_cases e : i ∈ vs
    · rw [wipe_set e]
    · have hv : i = v := by
        rcases List.mem_cons.mp h with z | z
        · exact z
        · exact absurd z e
      subst hv
      have key : ∀ ws : List Nat, i ∉ ws → wipe (σ.set i x) ws = (wipe σ ws).set i x := by
        intro ws
        induction ws with
        | nil => intro _; rfl
        | cons w ws ih =>
          intro h
          unfold wipe
          rw [ih (fun z => h (List.mem_cons_of_mem _ z)), List.set_comm]
          exact fun z => h (by simp [z])
      rw [key vs e, List.set_set]
theorem wipe_idem (σ : SS) : ∀ vs : List Nat, wipe (wipe σ vs) vs = wipe σ vs := fun vs => by
  have key : ∀ ws : List Nat, (∀ i ∈ ws, i ∈ vs) → wipe (wipe σ ws) vs = wipe σ vs := by
    intro ws
    induction ws with
    | nil => intro _; rfl
    | cons w ws ih =>
      intro h
      show wipe ((wipe σ ws).set w none) vs = wipe σ vs
      rw [wipe_set (h w (by simp)), ih fun i hi => h i (List.mem_cons_of_mem _ hi)]
  exact key vs fun _ h => h
/-- a target: tf takes the value apart, ef stores the parts -/
structure GOk (K : PySem.W.Frag) {α : Type} (g : TG) (slots : List Nat) (tf : D → M α) (ef : EnvD → α → EnvD) : Prop where
  go : ∀ (env : EnvD) (σ : SS) (H : Hp) (gh : Gh) (s s1 : Sto) (x : V) (d : D) (a : α) (Q : SS → Hp → Prop), SR K H gh s → EnvOk K H gh σ env → Rep K gh.fi gh.hb x d → tf d s = .ok a s1 →
    s1 = s ∧ ((∀ σ', EnvOk K H gh σ' (ef env a) → (∀ vs : List Nat, (∀ i ∈ slots, i ∈ vs) → wipe σ' vs = wipe σ vs) → (∀ i, i ∉ slots → σ'[i]? = σ[i]?) → Q σ' H) → g x σ H Q)
  nx : ∀ d, NoEx (tf d)
  ow : ∀ (env : EnvD) (a : α) (j : Nat) (d : D), (ef env a)[j]? = some (some (.own d)) → j ∉ slots ∧ env[j]? = some (some (.own d))
theorem own_set {env : EnvD} {i j : Nat} {d d' : D} (h : (env.set i (some (.val d)))[j]? = some (some (C.own d'))) : j ≠ i ∧ env[j]? = some (some (C.own d')) := by
  by_cases e' : i = j
  · subst e'
    by_cases hl : i < env.length
    · rw [List.getElem?_set_self hl] at h; cases h
    · rw [List.getElem?_eq_none (by simpa using hl)] at h; cases h
  · rw [List.getElem?_set_ne e'] at h; exact ⟨fun z => e' z.symm, h⟩
theorem go_name (K : PySem.W.Frag) (i : Nat) : GOk K (gName i) [i] (fun d => pure d) (fun env a => env.set i (some (.val a))) := ⟨fun env σ H gh s s1 x d a Q sr eo r h => by
  have h' : Res.ok d s = Res.ok a s1 := h
  cases h'
  exact ⟨rfl, fun q => q _ (eo.set r i) (fun vs hv => wipe_set (hv i (by simp))) fun j hj => List.getElem?_set_ne (fun z => hj (by simp [z]))⟩, fun _ => noEx_pure _, fun env a j d h => by
  obtain ⟨h1, h2⟩ := own_set h
  exact ⟨by simpa using h1, h2⟩⟩
def un2 : D → M (D × D)
  | .tup [a, b] => pure (a, b)
  | _ => M.bad
def un3 : D → M (D × D × D)
  | .tup [a, b, c] => pure (a, b, c)
  | _ => M.bad
theorem go_tup2 (K : PySem.W.Frag) (i j : Nat) : GOk K (gTup K 2 (gCons (gName i) (gCons (gName j) gNil))) [i, j] un2 (fun env a => (env.set i (some (.val a.1))).set j (some (.val a.2))) where
  go := fun env σ H gh s s1 x d a Q sr eo r h => by
    unfold un2 at h
    split at h
    · rename_i p q
      have h' : Res.ok (p, q) s = Res.ok a s1 := h
      cases h'
      refine ⟨rfl, fun q => ?_⟩
      cases r with
      | tup ht rl =>
        cases rl with
        | cons r1 rl =>
          cases rl with
          | cons r2 rl =>
            cases rl
            refine ⟨_, _, rfl, SqT.sub ht sr.sub, rfl, _, _, rfl, _, _, rfl, rfl, ?_⟩
            exact q _ ((eo.set r1 i).set r2 j) (fun vs hv => by rw [wipe_set (hv j (by simp)), wipe_set (hv i (by simp))]) fun k hk => by
              rw [List.getElem?_set_ne (fun z => hk (by simp [z])), List.getElem?_set_ne (fun z => hk (by simp [z]))]
    · cases h
  nx := fun d => by unfold un2; split; exact noEx_pure _; exact noEx_bad
  ow := fun env a j d h => by
    obtain ⟨h1, h2⟩ := own_set h
    obtain ⟨h3, h4⟩ := own_set h2
    exact ⟨by simp [h1, h3], h4⟩
theorem go_tup3 (K : PySem.W.Frag) (i j k : Nat) : GOk K (gTup K 3 (gCons (gName i) (gCons (gName j) (gCons (gName k) gNil)))) [i, j, k] un3 (fun env a => ((env.set i (some (.val a.1))).set j (some (.val a.2.1))).set k (some (.val a.2.2))) where
  go := fun env σ H gh s s1 x d a Q sr eo r h => by
    unfold un3 at h
    split at h
    · rename_i p q t
      have h' : Res.ok (p, q, t) s = Res.ok a s1 := h
      cases h'
      refine ⟨rfl, fun q => ?_⟩
      cases r with
      | tup ht rl =>
        cases rl with
        | cons r1 rl =>
          cases rl with
          | cons r2 rl =>
            cases rl with
            | cons r3 rl =>
              cases rl
              refine ⟨_, _, rfl, SqT.sub ht sr.sub, rfl, _, _, rfl, _, _, rfl, _, _, rfl, rfl, ?_⟩
              exact q _ (((eo.set r1 i).set r2 j).set r3 k) (fun vs hv => by rw [wipe_set (hv k (by simp)), wipe_set (hv j (by simp)), wipe_set (hv i (by simp))]) fun l hl => by
                rw [List.getElem?_set_ne (fun z => hl (by simp [z])), List.getElem?_set_ne (fun z => hl (by simp [z])), List.getElem?_set_ne (fun z => hl (by simp [z]))]
    · cases h
  nx := fun d => by unfold un3; split; exact noEx_pure _; exact noEx_bad
  ow := fun env a j d h => by
    obtain ⟨h1, h2⟩ := own_set h
    obtain ⟨h3, h4⟩ := own_set h2
    obtain ⟨h5, h6⟩ := own_set h4
    exact ⟨by simp [h1, h3, h5], h6⟩
end DL

set_option maxRecDepth 100000
set_option autoImplicit false
/-! DL8: comprehensions, fresh lists. -/
namespace DL
open PySem PySem.Spec PyProof.Rows L2
/-- nothing is raised -/
def M.nx {α : Type} (m : M α) : M α := fun s => match m s with
  | .ex _ _ _ => .bad
  | r => r
theorem M.nx_post {α : Type} {m : M α} {s : Sto} {ok : α → Sto → Prop} {ex ex' : Str → List (Str × D) → Sto → Prop} (h : (M.nx m s).post ok ex) : (m s).post ok ex' := by
  unfold M.nx at h
  cases e : m s with
  | ok a s1 => rw [e] at h; exact h
  | ex c d s1 => rw [e] at h; exact h.elim
  | bad => rw [e] at h; exact h.elim
/-- the items that come -/
def compM (f : D → M (Option D)) : List D → M (List D)
  | [] => pure []
  | x :: xs => M.nx (f x) >>= fun r => compM f xs >>= fun rs => pure (match r with
    | none => rs
    | some y => y :: rs)
def finL (rs : List D) : M D := if Op.lenOk rs.length then pure (.lst rs) else M.bad
def comp (f : D → M (Option D)) (xs : List D) : M D := compM f xs >>= finL
/-- what a fresh list's reading asks -/
def tF (K : PySem.W.Frag) (W : WX) (env : EnvD) (m : M D) : TE := fun σ H Q => ∃ g sto, SR K H g sto ∧ EnvOk K H g σ env ∧
  (m sto).post (fun d s => ∀ a H' g', Step H g H' g' → SR K H' g' s → H a = none → Own K g'.fi g'.hb H' a d → g'.hb a = none → a ∉ g'.fi → Q (.ref a) H') (exP K H g fun c dx H' => W c dx σ H')
abbrev JF (X : Cx) (W : WX) (env : EnvD) (e : Expr) (m : M D) : Prop := PE X e (tF X.K W env m)
section
variable {K : PySem.W.Frag} {H H' : Hp} {g g' : Gh} {s : Sto}
/-- a fresh thing becomes immutable -/
theorem freeze {a : Addr} {d : D} (st : Step H g H' g') (sr : SR K H' g' s) (hn : H a = none) (o : Own K g'.fi g'.hb H' a d) (nb : g'.hb a = none) (nf : a ∉ g'.fi) : ∃ g2, Step H g H' g2 ∧ SR K H' g2 s ∧ Rep K g2.fi g2.hb (.ref a) d ∧ Sub g'.hb g2.hb ∧ g2.fi = g'.fi ∧ ∀ b, b ≠ a → g2.hb b = g'.hb b := by
  obtain ⟨u, hu⟩ := o.there
  have sb : Sub g'.hb (upd g'.hb a u) := fun b v h => by rw [upd_ne (ne_of_none h nb)]; exact h
  refine ⟨⟨upd g'.hb a u, g'.fi⟩, ⟨st.hb.trans sb, st.fi, st.frame, st.live, fun b h n => ?_, st.newf⟩, ⟨fun b v h => ?_, sr.len, sr.nodup, fun b h => ?_, fun n b e h1 h2 => (sr.cell n b e h1 h2).mono sb .rfl fun _ h => h⟩, ?_, sb, rfl, fun b hb => upd_ne hb⟩
  · have : b ≠ a := fun z => n (by rw [z]; exact hn)
    show upd g'.hb a u b = none
    rw [upd_ne this]; exact st.newb b h n
  · have h' : upd g'.hb a u b = some v := h
    by_cases e : b = a
    · subst e; rw [upd_same] at h'; cases h'; exact hu
    · rw [upd_ne e] at h'; exact sr.sub _ _ h'
  · show upd g'.hb a u b = none
    rw [upd_ne (fun z => nf (by rw [← z]; exact h))]; exact sr.out b h
  · cases d with
    | lst ds => obtain ⟨vs, h1, r⟩ := o; rw [hu] at h1; cases h1; exact .lst (SqL.of upd_same) (r.mono sb .rfl)
    | dct es => obtain ⟨vs, h1, r⟩ := o; rw [hu] at h1; cases h1; exact .dct upd_same (r.mono sb .rfl)
    | obj c es => obtain ⟨dx, vs, h1, r⟩ := o; rw [hu] at h1; cases h1; exact .obj upd_same (r.mono sb .rfl)
    | _ => exact o.elim
end
section
variable {X : Cx} {W : WX} {env : EnvD} {e : Expr} {m : M D}
theorem JF.je (h : JF X W env e m) : JE X W env e m := PE.imp h fun σ H Q ⟨g, s, sr, eo, q⟩ => ⟨g, s, sr, eo, Res.post.imp q (fun d s1 x a H' g' st sr1 hn o nb nf => by
  obtain ⟨g2, st2, sr2, r, _⟩ := freeze st sr1 hn o nb nf
  exact x (.ref a) H' g2 st2 sr2 r) fun _ _ _ x => x⟩
theorem newOwn {K : PySem.W.Frag} {H : Hp} {g : Gh} {s : Sto} (sr : SR K H g s) {p : Addr} (hp : H p = none) (o : HO) : Step H g (upd H p o) g ∧ SR K (upd H p o) g s ∧ g.hb p = none ∧ p ∉ g.fi := by
  have nb := sr.hbn hp
  have nf : p ∉ g.fi := fun h => by
    obtain ⟨n, e⟩ := List.getElem?_of_mem h
    have hl : n < s.length := by rw [← sr.len]; exact (List.getElem?_eq_some_iff.mp e).1
    obtain ⟨u, hu⟩ := (sr.cell n p _ e (List.getElem?_eq_getElem hl)).there
    rw [hp] at hu; cases hu
  refine ⟨⟨.rfl, .rfl, fun a u h _ => by rw [upd_ne (ne_of_none h hp)]; exact h, fun a h => ?_, fun a h _ => h, fun a h _ => h⟩, ⟨fun a u h => ?_, sr.len, sr.nodup, sr.out, fun n a d h1 h2 => ?_⟩, nb, nf⟩
  · by_cases e : a = p
    · rw [e]; exact hp
    · rw [upd_ne e] at h; exact h
  · rw [upd_ne (ne_of_none h nb)]; exact sr.sub _ _ h
  · exact (sr.cell n a d h1 h2).mono .rfl .rfl fun o' h' => by rw [upd_ne (ne_of_none h' hp)]; exact h'
theorem jf_lst {es : List Expr} {pos : Pos} {m : M (List D)} (h : JA X W env es m) : JF X W env (.List es pos) (m >>= Op.mkL) :=
  PE.imp (pe_lst h) fun σ H Q ⟨g, s, sr, eo, q⟩ => tX.mk sr eo (Res.post.imp (post_bind.mp q) (fun ds s1 x vs H1 g1 st sr1 eo1 r => by
    unfold Op.mkL at x
    split at x
    · rename_i c
      refine ⟨by rw [r.length]; exact lenOk_le c, fun p hp => ?_⟩
      obtain ⟨st2, sr2, nb, nf⟩ := newOwn sr1 hp (.lst vs)
      exact x p _ g1 (st.trans st2) sr2 (st.live p hp) ⟨vs, upd_same, r⟩ nb nf
    · exact x.elim) fun _ _ _ x => x)
theorem jf_dct0 {pos : Pos} : JF X W env (.Dict [] [] pos) (pure (.dct [])) :=
  PE.imp pe_dnewK fun σ H Q ⟨g, s, sr, eo, q⟩ p hp => by
    obtain ⟨st2, sr2, nb, nf⟩ := newOwn sr hp (.dK [])
    exact q p _ g st2 sr2 hp ⟨[], upd_same, .nil⟩ nb nf
/-! ### [elt for target in iter if tests] -/
/-- a turn: the tests -/
def lcT {α : Type} (K : PySem.W.Frag) (env : EnvD) (vs : List Nat) (ef : EnvD → α → EnvD) (mt : α → M Bool) : TT := fun σ H Q => ∃ x : α, tX K (fun _ _ _ _ => False) (ef (wipeE env vs) x) RT (mt x) σ H Q
def lcE {α : Type} (K : PySem.W.Frag) (env : EnvD) (vs : List Nat) (ef : EnvD → α → EnvD) (me : α → M D) : TE := fun σ H Q => ∃ x : α, tX K (fun _ _ _ _ => False) (ef (wipeE env vs) x) (RS K) (me x) σ H Q
theorem lc_imp {α : Type} {K : PySem.W.Frag} {W : WX} {env : EnvD} {own : List (Str × Nat)} {g : TG} {slots : List Nat} {tf : D → M α} {ef : EnvD → α → EnvD} {mi : M (List D)} {mt : α → M Bool} {me : α → M D} (hgo : GOk K g slots tf ef) (hsl : ∀ i ∈ slots, i ∈ own.map (·.2)) {σ : SS} {H : Hp} {Q : VK}
    (hq : tF K W env (mi >>= comp fun x => tf x >>= fun a => mt a >>= fun b => if b then me a >>= fun y => pure (some y) else pure none) σ H Q) :
    tLc (iXB K W env mi) g (lcT K env (own.map (·.2)) ef mt) (lcE K env (own.map (·.2)) ef me) (own.map (·.2)) σ H Q := by
  obtain ⟨g0, s0, sr0, eo0, q0⟩ := hq
  refine ⟨g0, s0, sr0, eo0, Res.post.imp (post_bind.mp q0) (fun ds s1 x H1 g1 J st1 sr1 wk Dd hD => ?_) fun _ _ _ x => x⟩
  obtain ⟨stD, srD, nbD, nfD⟩ := newOwn sr1 hD (.lst [])
  -- the invariant
  let f : D → M (Option D) := fun x => tf x >>= fun a => mt a >>= fun b => if b then me a >>= fun y => pure (some y) else pure none
  let P : Nat → Hp → Prop := fun i Hc => ∃ g2 s2 acc accV, Step H1 g1 Hc g2 ∧ SR K Hc g2 s2 ∧ EnvOk K Hc g2 σ env ∧ Hc Dd = some (.lst accV) ∧ RepL K g2.fi g2.hb accV acc ∧ g2.hb Dd = none ∧ Dd ∉ g2.fi ∧
    ((compM f (ds.drop i) >>= fun rs => finL (acc ++ rs)) s2).post (fun d s => ∀ a H' g', Step H1 g1 H' g' → SR K H' g' s → H1 a = none → Own K g'.fi g'.hb H' a d → g'.hb a = none → a ∉ g'.fi → Q (.ref a) H') (fun _ _ _ => False)
  refine ⟨fun i mm Hc => mm = ds.length - i ∧ i ≤ ds.length ∧ P i Hc, ⟨ds.length, by simp, Nat.zero_le _, g1, s1, [], [], stD, srD, (eo0.step st1).step stD, upd_same, .nil, nbD, nfD, ?_⟩, ?_⟩
  · -- the start
    have x' : (comp f ds s1).post _ _ := x
    unfold comp at x'
    simp only [List.drop_zero, List.nil_append]
    have nxc : ∀ l : List D, NoEx (compM f l) := by
      intro l
      induction l with
      | nil => exact noEx_pure _
      | cons a l ih => exact noEx_bind (fun s c d s' h => by unfold M.nx at h; split at h <;> first | (cases h; done) | (rename_i z; exact (z _ _ _ h).elim)) fun _ => noEx_bind ih fun _ => noEx_pure _
    have nxf : NoEx (compM f ds >>= finL) := noEx_bind (nxc ds) fun _ => noEx_ite (noEx_pure _) noEx_bad
    show ((compM f ds >>= finL) s1).post _ _
    have x2 : ((compM f ds >>= finL) s1).post (fun d s => ∀ a H' g', Step H1 g1 H' g' → SR K H' g' s → H1 a = none → Own K g'.fi g'.hb H' a d → g'.hb a = none → a ∉ g'.fi → Q (.ref a) H') (exP K H g0 fun c dx H' => W c dx σ H') :=
      Res.post.imp x' (fun d s y a H' g' st' sr' hn o nb nf => y a H' g' (st1.trans st') sr' (st1.live a hn) o nb nf) fun _ _ _ z => z
    cases e : (compM f ds >>= finL) s1 with
    | ok d s => rw [e] at x2; exact x2
    | ex c d s => exact absurd e (nxf s1 c d s)
    | bad => rw [e] at x2; exact x2
  · rintro i mm Hc ⟨rfl, hi, g2, s2, acc, accV, st2, sr2, eo2, hDd, racc, nb2, nf2, q2⟩
    obtain ⟨wgo, wstop⟩ := wk Hc g2 st2 sr2.sub
    by_cases hlt : i < ds.length
    · -- a turn
      refine .inr ⟨(wgo i _ (List.getElem?_eq_getElem hlt)).1, P (i + 1), fun H' p' => ⟨ds.length - (i + 1), by omega, rfl, hlt, p'⟩, fun v H' y => ?_⟩
      obtain ⟨g3, st3, srf, rv⟩ := (wgo i _ (List.getElem?_eq_getElem hlt)).2 v H' y
      have sr3 := srf s2 sr2
      have hDd3 := st3.frame _ _ hDd nf2
      have nb3 : g3.hb Dd = none := st3.newb Dd nb2 (by rw [hDd]; simp)
      have nf3 : Dd ∉ g3.fi := fun z => nf2 (st3.newf Dd z (by rw [hDd]; simp))
      have dr : ds.drop i = ds[i] :: ds.drop (i + 1) := (List.drop_eq_getElem_cons hlt)
      rw [dr] at q2
      have q3 := post_bind.mp q2
      have q4 := post_bind.mp q3
      have q5 : (f ds[i] s2).post _ (fun _ _ _ => False) := M.nx_post (ex' := fun _ _ _ => False) q4
      have q6 := post_bind.mp q5
      cases etf : tf ds[i] s2 with
      | ex c d s3 => rw [etf] at q6; exact q6.elim
      | bad => rw [etf] at q6; exact q6.elim
      | ok a s3 =>
      rw [etf] at q6
      obtain ⟨rfl, hgo'⟩ := hgo.go (wipeE env (own.map (·.2))) (wipe σ (own.map (·.2))) H' g3 s2 s3 v ds[i] a (fun σ2 H2 => wipe σ2 (own.map (·.2)) = wipe σ (own.map (·.2)) ∧ lcT K env (own.map (·.2)) ef mt σ2 H2 fun b H3 =>
        if b = true then lcE K env (own.map (·.2)) ef me σ2 H3 fun y H4 => ∃ acc, H4 Dd = some (.lst acc) ∧ acc.length < sizeLine ∧ P (i + 1) (upd H4 Dd (.lst (acc ++ [y]))) else P (i + 1) H3) sr3 ((eo2.step st3).wiped _) rv etf
      refine hgo' fun σ' eo' hw _ => ⟨by rw [hw _ hsl, wipe_idem], a, tX.mk sr3 eo' (Res.post.imp (post_bind.mp q6) (fun b s4 q7 b' H4 g4 st4 sr4 eo4 rb => ?_) fun _ _ _ z => z.elim)⟩
      cases rb
      have hDd4 := st4.frame _ _ hDd3 nf3
      have nb4 : g4.hb Dd = none := st4.newb Dd nb3 (by rw [hDd3]; simp)
      have nf4 : Dd ∉ g4.fi := fun z => nf3 (st4.newf Dd z (by rw [hDd3]; simp))
      cases b with
      | false =>
        rw [if_neg Bool.false_ne_true]
        have q8 : ((compM f (ds.drop (i + 1)) >>= fun rs => pure rs) s4).post _ _ := q7
        refine ⟨g4, s4, acc, accV, (st2.trans st3).trans st4, sr4, (eo2.step st3).step st4, hDd4, (racc.mono st3.hb st3.fi).mono st4.hb st4.fi, nb4, nf4, ?_⟩
        exact post_bind.mpr (Res.post.imp (post_bind.mp q8) (fun _ _ z => z) fun _ _ _ z => z)
      | true =>
        rw [if_pos rfl]
        refine ⟨a, tX.mk sr4 eo4 (Res.post.imp (post_bind.mp q7) (fun y s5 q8 v' H5 g5 st5 sr5 eo5 ry => ?_) fun _ _ _ z => z.elim)⟩
        have hDd5 := st5.frame _ _ hDd4 nf4
        have nb5 : g5.hb Dd = none := st5.newb Dd nb4 (by rw [hDd4]; simp)
        have nf5 : Dd ∉ g5.fi := fun z => nf4 (st5.newf Dd z (by rw [hDd4]; simp))
        have q9 : ((compM f (ds.drop (i + 1)) >>= fun rs => finL (acc ++ (y :: rs))) s5).post (fun d s => ∀ a H' g', Step H1 g1 H' g' → SR K H' g' s → H1 a = none → Own K g'.fi g'.hb H' a d → g'.hb a = none → a ∉ g'.fi → Q (.ref a) H') (fun _ _ _ => False) := by
          have q10 : ((compM f (ds.drop (i + 1)) >>= fun rs => pure (y :: rs)) s5).post _ _ := q8
          exact post_bind.mpr (Res.post.imp (post_bind.mp q10) (fun _ _ z => z) fun _ _ _ z => z)
        have hlen : acc.length < sizeLine := by
          cases ec : compM f (ds.drop (i + 1)) s5 with
          | ex c d s6 => have := post_bind.mp q9; rw [ec] at this; exact this.elim
          | bad => have := post_bind.mp q9; rw [ec] at this; exact this.elim
          | ok rs s6 =>
            have := post_bind.mp q9
            rw [ec] at this
            have t2 : (finL (acc ++ (y :: rs)) s6).post _ _ := this
            unfold finL at t2
            split at t2
            · rename_i c
              have := lenOk_le c
              rw [List.length_append, List.length_cons] at this
              omega
            · exact t2.elim
        have stA : Step H1 g1 H5 g5 := ((st2.trans st3).trans st4).trans st5
        have raccA : RepL K g5.fi g5.hb accV acc := ((racc.mono st3.hb st3.fi).mono st4.hb st4.fi).mono st5.hb st5.fi
        have nD : ∀ {b : Addr} {u : HO}, H1 b = some u → b ≠ Dd := fun h z => by rw [z, hD] at h; cases h
        refine ⟨accV, hDd5, by rw [raccA.length]; exact hlen, g5, s5, acc ++ [y], accV ++ [v'], ⟨stA.hb, stA.fi, fun b u h n => by rw [upd_ne (nD h)]; exact stA.frame b u h n, fun b h => ?_, stA.newb, stA.newf⟩, ⟨fun b u h => by rw [upd_ne (ne_of_none h nb5)]; exact sr5.sub _ _ h, sr5.len, sr5.nodup, sr5.out, fun n b d h1 h2 => (sr5.cell n b d h1 h2).mono .rfl .rfl fun o h => ?_⟩, ?_, upd_same, raccA.app (.cons ry .nil), nb5, nf5, ?_⟩
        · by_cases e : b = Dd
          · rw [e]; exact hD
          · rw [upd_ne e] at h; exact stA.live b h
        · have : b ≠ Dd := fun z => nf5 (by rw [← z]; exact List.mem_of_getElem? h1)
          rw [upd_ne this]; exact h
        · -- the environment stands
          have eo5' := ((eo2.step st3).step st4).step st5
          have keep : ∀ {b : Addr} {u : HO}, H5 b = some u → b ≠ Dd → upd H5 Dd (.lst (accV ++ [v'])) b = some u := fun h n => by rw [upd_ne n]; exact h
          have ownNe : ∀ (i : Nat) (d : D) (a : Addr), env[i]? = some (some (.own d)) → σ[i]? = some (some (.ref a)) → a ≠ Dd := fun i d a h1 h2 z => by
            obtain ⟨b, h3, o, _⟩ := (eo0.step st1).own i d h1
            rw [h2] at h3
            cases h3
            obtain ⟨u, hu⟩ := o.there
            rw [z, hD] at hu
            cases hu
          refine ⟨eo5'.len, eo5'.val, fun i d h => ?_, eo5'.dis, fun i a dx fs h => ?_⟩
          · obtain ⟨a, h1, o, h2⟩ := eo5'.own i d h
            exact ⟨a, h1, o.mono .rfl .rfl fun o' h' => keep h' (ownNe i d a h h1), h2⟩
          · obtain ⟨h1, xr⟩ := eo5'.exc i a dx fs h
            refine ⟨h1, ?_⟩
            rcases xr with z | ⟨p, vs, e1, e2, e3, e4⟩
            · exact .inl z
            · exact .inr ⟨p, vs, e1, keep e2 (fun z => by rw [z, hDd5] at e2; cases e2), e3, e4⟩
        · simp only [List.append_assoc, List.singleton_append]
          exact q9
    · -- the end
      have e : i = ds.length := by omega
      subst e
      refine .inl ⟨wstop _ (Nat.le_refl _), ?_⟩
      rw [List.drop_length] at q2
      have q3 : (finL (acc ++ []) s2).post _ _ := q2
      unfold finL at q3
      rw [List.append_nil] at q3
      split at q3
      · exact q3 Dd Hc g2 st2 sr2 hD ⟨accV, hDd, racc⟩ nb2 nf2
      · exact q3.elim
/-- .. as a value -/
theorem jf_lc {α : Type} {elt tg iter : Expr} {ifs : List Expr} {scope : Scope} {own : List (Str × Nat)} {pos : Pos} {g : TG} {slots : List Nat} {tf : D → M α} {ef : EnvD → α → EnvD} {mi : M (List D)} {mt : α → M Bool} {me : α → M D} (hc : X.calm = true) (hN : X.N.Nodup)
    (hi : JIb X W env tg iter mi) (ok : BlkOk X.N X.env.scope scope own) (hg : ∀ (s : Shared) (H : Hp) (C : Addr) (cl : List (Str × Addr)) (fp : List Addr), PG (X.blk s H scope (compEnvC scope cl C X.env) fp) tg g) (hgo : GOk X.K g slots tf ef) (hsl : ∀ i ∈ slots, i ∈ own.map (·.2))
    (ht : ∀ (s : Shared) (H : Hp) (C : Addr) (cl : List (Str × Addr)) (fp : List Addr) (x : α), PTs (X.blk s H scope (compEnvC scope cl C X.env) fp) ifs (tX X.K (fun _ _ _ _ => False) (ef (wipeE env (own.map (·.2))) x) RT (mt x)))
    (he : ∀ (s : Shared) (H : Hp) (C : Addr) (cl : List (Str × Addr)) (fp : List Addr) (x : α), JE (X.blk s H scope (compEnvC scope cl C X.env) fp) (fun _ _ _ _ => False) (ef (wipeE env (own.map (·.2))) x) elt (me x))
    (hs : ∀ x, foldedSetIterable iter X.env x = pure x := by intro _; rfl) :
    JF X W env (.ListComp elt [⟨tg, iter, ifs, 0⟩] scope pos) (mi >>= comp fun x => tf x >>= fun a => mt a >>= fun b => if b then me a >>= fun y => pure (some y) else pure none) := by
  have ht' : ∀ (s : Shared) (H : Hp) (C : Addr) (cl : List (Str × Addr)) (fp : List Addr), PTs (X.blk s H scope (compEnvC scope cl C X.env) fp) ifs (lcT X.K env (own.map (·.2)) ef mt) := fun s H C cl fp => ⟨fun pins s' σ H' Q I ⟨x, h⟩ => (ht s H C cl fp x).run pins s' σ H' Q I h⟩
  have he' : ∀ (s : Shared) (H : Hp) (C : Addr) (cl : List (Str × Addr)) (fp : List Addr), PE (X.blk s H scope (compEnvC scope cl C X.env) fp) elt (lcE X.K env (own.map (·.2)) ef me) := fun s H C cl fp => ⟨fun pins s' σ H' Q I ⟨x, h⟩ => (he s H C cl fp x).run pins s' σ H' Q I h⟩
  exact PE.imp (pe_lc hc hN hi ok hg ht' he' hs) fun σ H Q h => lc_imp hgo hsl h
end
end DL

set_option maxRecDepth 100000
set_option autoImplicit false
/-! DL9: statements. -/
namespace DL
open PySem PySem.Spec PyProof.Rows L2
/-- how a block ends -/
inductive Flo where
  | nx (env : EnvD) | nc (env : EnvD) | rt (d : D) | fin (d : D) | bk (env : EnvD)
def OwnFr (H0 : Hp) (σ : SS) (env : EnvD) : Prop := ∀ (i : Nat) (d : D) (a : Addr), env[i]? = some (some (.own d)) → σ[i]? = some (some (.ref a)) → H0 a = none
/-- env' knows less -/
inductive Weak : EnvD → EnvD → Prop
  | nil : Weak [] []
  | same {c : Option C} {e e' : EnvD} : Weak e e' → Weak (c :: e) (c :: e')
  | none {c : Option C} {e e' : EnvD} : Weak e e' → Weak (Option.none :: e) (c :: e')
theorem Weak.rfl : ∀ {e : EnvD}, Weak e e
  | [] => .nil
  | _ :: _ => .same Weak.rfl
theorem Weak.len : ∀ {e' e : EnvD}, Weak e' e → e'.length = e.length
  | _, _, .nil => Eq.refl _
  | _, _, .same h => by simp [Weak.len h]
  | _, _, .none h => by simp [Weak.len h]
theorem Weak.get : ∀ {e' e : EnvD} {i : Nat} {c : C}, Weak e' e → e'[i]? = some (some c) → e[i]? = some (some c)
  | _, _, _, _, .nil, h => h
  | _, _, 0, _, .same h, e => e
  | _, _, i + 1, _, .same h, e => by simpa using Weak.get (i := i) h (by simpa using e)
  | _, _, 0, _, .none h, e => by simp at e
  | _, _, i + 1, _, .none h, e => by simpa using Weak.get (i := i) h (by simpa using e)
theorem weak_none : ∀ {e : EnvD} {n : Nat}, e.length = n → Weak (List.replicate n Option.none) e
  | [], _, rfl => .nil
  | _ :: e, _, rfl => .none (weak_none (Eq.refl _))
theorem EnvOk.weak {K : PySem.W.Frag} {H : Hp} {g : Gh} {σ : SS} {env env' : EnvD} (e : EnvOk K H g σ env) (w : Weak env' env) : EnvOk K H g σ env' :=
  ⟨w.len.trans e.len, fun i d h => e.val i d (w.get h), fun i d h => e.own i d (w.get h), fun i j d d' a h1 h2 => e.dis i j d d' a (w.get h1) (w.get h2), fun i a dx fs h => e.exc i a dx fs (w.get h)⟩
theorem OwnFr.weak {H0 : Hp} {σ : SS} {env env' : EnvD} (e : OwnFr H0 σ env) (w : Weak env' env) : OwnFr H0 σ env' := fun i d a h => e i d a (w.get h)
section
variable {K : PySem.W.Frag}
def EndsOk (K : PySem.W.Frag) (H0 : Hp) (g0 : Gh) (D : Ends) (s' : Sto) : Flo → Prop
  | .nx env => ∀ σ H g, Step H0 g0 H g → SR K H g s' → EnvOk K H g σ env → OwnFr H0 σ env → D.nx σ H
  | .nc env => ∀ σ H g, Step H0 g0 H g → SR K H g s' → EnvOk K H g σ env → OwnFr H0 σ env → D.nx σ H ∧ D.ct σ H
  | .rt d => ∀ v H g, Step H0 g0 H g → SR K H g s' → Rep K g.fi g.hb v d → D.rt v H
  | .fin d => (∀ v H g, Step H0 g0 H g → SR K H g s' → Rep K g.fi g.hb v d → D.rt v H) ∧ (d = .non → ∀ σ H g, Step H0 g0 H g → SR K H g s' → D.nx σ H)
  | .bk env => ∀ σ H g, Step H0 g0 H g → SR K H g s' → EnvOk K H g σ env → OwnFr H0 σ env → D.bk σ H
def exS (K : PySem.W.Frag) (H0 : Hp) (g0 : Gh) (xe : EnvD) (W : WX) : Str → List (Str × D) → Sto → Prop := fun c fs s' => ∀ σ' H' g' dx, Step H0 g0 H' g' → SR K H' g' s' → EnvOk K H' g' σ' xe → OwnFr H0 σ' xe → XRep K g' H' dx fs → W (.ref (He.ga K c)) dx σ' H'
def tS {α : Type} (K : PySem.W.Frag) (W : WX) (xe env : EnvD) (m : M α) (dec : α → Flo) : TS := fun D σ H => ∃ H0 g0 g s, Step H0 g0 H g ∧ SR K H g s ∧ EnvOk K H g σ env ∧ OwnFr H0 σ env ∧ (m s).post (fun a s' => EndsOk K H0 g0 D s' (dec a)) (exS K H0 g0 xe W)
end
/-- the ends of a block behind which U comes -/
structure Ex (U : TS) (D D1 : Ends) : Prop where
  rt : D1.rt = D.rt
  bk : D1.bk = D.bk
  ct : D1.ct = D.ct
  nx : ∀ σ H, U D σ H → D1.nx σ H
/-- the block A, then U -/
def JC {α : Type} (X : Cx) (W : WX) (xe env : EnvD) (A : List Stmt) (U : TS) (m : M α) (dec : α → Flo) : Prop := PSs X A fun D1 σ H => ∃ D, Ex U D D1 ∧ tS X.K W xe env m dec D σ H
def J1 {α : Type} (X : Cx) (W : WX) (xe env : EnvD) (st : Stmt) (m : M α) (dec : α → Flo) : Prop := PS X st (tS X.K W xe env m dec)
def U0 : TS := fun D σ H => D.nx σ H
/-- what follows: rest, then U -/
def after (X : Cx) (W : WX) (xe : EnvD) (rest : List Stmt) (U : TS) : TS := fun D σ H => ∃ (α : Type) (env : EnvD) (m : M α) (dec : α → Flo), JC X W xe env rest U m dec ∧ tS X.K W xe env m dec D σ H
section
variable {X : Cx} {W : WX} {xe env : EnvD} {α β : Type} {dec : α → Flo} {U : TS} {rest : List Stmt} {e : Expr} {pos : Pos}
theorem exS.toP {K : PySem.W.Frag} {H0 H : Hp} {g0 g : Gh} {s : Sto} {σ : SS} {c : Str} {fs : List (Str × D)} {s' : Sto} (x : exS K H0 g0 xe W c fs s') (st : Step H0 g0 H g) (eo : EnvOk K H g σ env) (fr : OwnFr H0 σ env) (w : Weak xe env) : exP K H g (fun c dx H' => W c dx σ H') c fs s' :=
  fun H' g' dx st' sr' r => x σ H' g' dx (st.trans st') sr' ((eo.step st').weak w) (fr.weak w) r
/-- a statement-level chain begins with an expression -/
theorem tS.expr {ω δ : Type} {K : PySem.W.Frag} {Rl : Rel ω δ} {m : M δ} {k : δ → M α} {σ : SS} {H H0 : Hp} {g g0 : Gh} {s : Sto} {D : Ends} {Q : ω → Hp → Prop} (w : Weak xe env) (st0 : Step H0 g0 H g) (sr : SR K H g s) (eo : EnvOk K H g σ env) (fr : OwnFr H0 σ env)
    (h : ((m >>= k) s).post (fun a s' => EndsOk K H0 g0 D s' (dec a)) (exS K H0 g0 xe W))
    (hq : ∀ a s1 v H1 g1, Step H g H1 g1 → SR K H1 g1 s1 → EnvOk K H1 g1 σ env → Rl g1 H1 v a → ((k a) s1).post (fun a s' => EndsOk K H0 g0 D s' (dec a)) (exS K H0 g0 xe W) → Q v H1) : tX K W env Rl m σ H Q :=
  tX.mk sr eo (Res.post.imp (post_bind.mp h) (fun a s1 x v H1 g1 st sr1 eo1 r => hq a s1 v H1 g1 st sr1 eo1 r x) fun c fs s' x => exS.toP (s := s) x st0 eo fr w)
/-! ends -/
theorem jc_nil {a : α} {env' : EnvD} (w : Weak env' env) (hd : dec a = .nx env' ∨ dec a = .nc env') : JC X W xe env [] U0 (pure a) dec := ⟨fun pins s σ H D1 I ⟨D, e1, H0, g0, g, st, st0, sr, eo, fr, h⟩ => by
  refine pss_nil.run pins s σ H _ I (e1.nx σ H ?_)
  have h' : EndsOk X.K H0 g0 D st (dec a) := h
  rcases hd with hd | hd
  · rw [hd] at h'; exact h' σ H g st0 sr (eo.weak w) (fr.weak w)
  · rw [hd] at h'; exact (h' σ H g st0 sr (eo.weak w) (fr.weak w)).1⟩
theorem jc_nilF {a : α} (hd : dec a = .fin .non) : JC X W xe env [] U0 (pure a) dec := ⟨fun pins s σ H D1 I ⟨D, e1, H0, g0, g, st, st0, sr, eo, fr, h⟩ => by
  refine pss_nil.run pins s σ H _ I (e1.nx σ H ?_)
  have h' : EndsOk X.K H0 g0 D st (dec a) := h
  rw [hd] at h'
  exact h'.2 rfl σ H g st0 sr⟩
theorem jc_end {m : M α} (h : JC X W xe env rest U m dec) : JC X W xe env [] (after X W xe rest U) m dec := ⟨fun pins s σ H D1 I ⟨D, e1, h2⟩ => pss_nil.run pins s σ H _ I (e1.nx σ H ⟨α, env, m, dec, h, h2⟩)⟩
/-- a statement whose reading is known, then what follows -/
theorem PSs.step {st : Stmt} {t u : TS} (h1 : PS X st t) (h2 : PSs X rest u) {t' : TS} (i : ∀ D σ H, t' D σ H → t { D with nx := u D } σ H) : PSs X (st :: rest) t' :=
  ⟨fun pins s σ H D I q => (pss_cons h1 h2).run pins s σ H D I (i D σ H q)⟩
theorem jc_ret {m : M D} {r : D → α} (w : Weak xe env) (h : JE X W env e m) (hd : ∀ d, dec (r d) = .rt d ∨ dec (r d) = .fin d) : JC X W xe env (.Return (some e) pos :: rest) U (m >>= fun d => pure (r d)) dec :=
  PSs.step (ps_ret h) pss_never fun D1 σ H ⟨D, e1, H0, g0, g, s, st0, sr, eo, fr, q⟩ => tS.expr w st0 sr eo fr q fun d s1 v H1 g1 st sr1 eo1 rv q1 => by
    show D1.rt v H1
    rw [e1.rt]
    have q2 : EndsOk X.K H0 g0 D s1 (dec (r d)) := q1
    rcases hd d with z | z
    · rw [z] at q2; exact q2 v H1 g1 (st0.trans st) sr1 rv
    · rw [z] at q2; exact q2.1 v H1 g1 (st0.trans st) sr1 rv
theorem jc_retF {m : M D} (w : Weak xe env) (h : JE X W env e m) : JC X W xe env (.Return (some e) pos :: rest) U m .fin := by
  have := jc_ret (r := fun d => d) (dec := Flo.fin) (U := U) (rest := rest) (pos := pos) w h fun d => .inr rfl
  rwa [bind_pure] at this
theorem jc_retR {m : M D} (w : Weak xe env) (h : JE X W env e m) : JC X W xe env (.Return (some e) pos :: rest) U m .rt := by
  have := jc_ret (r := fun d => d) (dec := Flo.rt) (U := U) (rest := rest) (pos := pos) w h fun d => .inl rfl
  rwa [bind_pure] at this
theorem jc_retN {a : α} (hd : dec a = .rt .non ∨ dec a = .fin .non) : JC X W xe env (.Return none pos :: rest) U (pure a) dec :=
  PSs.step ps_retN pss_never fun D1 σ H ⟨D, e1, H0, g0, g, s, st0, sr, eo, fr, q⟩ => by
    show D1.rt .non H
    rw [e1.rt]
    have q2 : EndsOk X.K H0 g0 D s (dec a) := q
    rcases hd with z | z
    · rw [z] at q2; exact q2 .non H g st0 sr .non
    · rw [z] at q2; exact q2.1 .non H g st0 sr .non
theorem jc_break {a : α} {env' : EnvD} (w : Weak env' env) (hd : dec a = .bk env') : JC X W xe env (.Break pos :: rest) U (pure a) dec :=
  PSs.step ps_break pss_never fun D1 σ H ⟨D, e1, H0, g0, g, s, st0, sr, eo, fr, q⟩ => by
    show D1.bk σ H
    rw [e1.bk]
    have q2 : EndsOk X.K H0 g0 D s (dec a) := q
    rw [hd] at q2
    exact q2 σ H g st0 sr (eo.weak w) (fr.weak w)
theorem jc_continue {a : α} {env' : EnvD} (w : Weak env' env) (hd : dec a = .nc env') : JC X W xe env (.Continue pos :: rest) U (pure a) dec :=
  PSs.step ps_continue pss_never fun D1 σ H ⟨D, e1, H0, g0, g, s, st0, sr, eo, fr, q⟩ => by
    show D1.ct σ H
    rw [e1.ct]
    have q2 : EndsOk X.K H0 g0 D s (dec a) := q
    rw [hd] at q2
    exact (q2 σ H g st0 sr (eo.weak w) (fr.weak w)).2
/-! small statements -/
/-- what follows a simple statement: any of the environments f a -/
def nexts {δ : Type} (X : Cx) (W : WX) (xe : EnvD) (U : TS) (f : δ → EnvD) (k : δ → M α) (dec : α → Flo) : TS := fun D1 σ H => ∃ d D, Ex U D D1 ∧ tS X.K W xe (f d) (k d) dec D σ H
theorem nexts_run {δ : Type} {f : δ → EnvD} {k : δ → M α} (h : ∀ d, JC X W xe (f d) rest U (k d) dec) : PSs X rest (nexts X W xe U f k dec) := ⟨fun pins s σ H D1 I ⟨d, D, e1, q⟩ => (h d).run pins s σ H D1 I ⟨D, e1, q⟩⟩
theorem jc_expr {m : M D} {k : M α} (w : Weak xe env) (h : JE X W env e m) (hr : JC X W xe env rest U k dec) (hs : swapsWith e none pos.line X.env = pure false := by rfl) : JC X W xe env (.Expr e pos :: rest) U (m >>= fun _ => k) dec :=
  PSs.step (ps_expr h hs) (nexts_run (δ := D) (f := fun _ => env) (k := fun _ => k) fun _ => hr) fun D1 σ H ⟨D, e1, H0, g0, g, s, st0, sr, eo, fr, q⟩ => tS.expr (Rl := RS X.K) w st0 sr eo fr q fun d s1 v H1 g1 st sr1 eo1 rv q1 =>
    ⟨d, D, e1, H0, g0, g1, s1, st0.trans st, sr1, eo1, fr, q1⟩
theorem jc_pass {k : M α} (hr : JC X W xe env rest U k dec) : JC X W xe env (.Pass pos :: rest) U k dec :=
  PSs.step ps_pass hr fun D1 σ H h => h
theorem OwnFr.set {H0 : Hp} {σ : SS} (fr : OwnFr H0 σ env) (i : Nat) (v : V) (d : D) : OwnFr H0 (σ.set i (some v)) (env.set i (some (.val d))) := fun j d' a h1 h2 => by
  by_cases e' : i = j
  · subst e'
    by_cases hl : i < env.length
    · rw [List.getElem?_set_self hl] at h1; cases h1
    · rw [List.getElem?_eq_none (by simpa using hl)] at h1; cases h1
  · rw [List.getElem?_set_ne e'] at h1 h2
    exact fr j d' a h1 h2
/-- name = e -/
theorem jc_set (i : Nat) {x : Str} {pos' : Pos} {m : M D} {k : D → M α} (w : Weak xe env) (hN : X.N.Nodup) (h : JE X W env e m) (hr : ∀ d, JC X W xe (env.set i (some (.val d))) rest U (k d) dec) (hi : X.N[i]? = some x := by rfl) (hx : Loc X.env.scope x := by first | exact Or.inl rfl | exact Or.inr rfl)
    (hs : swapsWith e (some (.Name x pos')) pos.line X.env = pure false := by rfl) (hf : X.fn x = true ∨ X.env.scope.names.lookup x = some .local := by first | exact .inl rfl | exact .inr rfl) : JC X W xe env (.Assign [.Name x pos'] e pos :: rest) U (m >>= k) dec :=
  PSs.step (ps_set hN hi hx h hs hf) (nexts_run (f := fun d => env.set i (some (.val d))) (k := k) hr) fun D1 σ H ⟨D, e1, H0, g0, g, s, st0, sr, eo, fr, q⟩ => tS.expr (Rl := RS X.K) w st0 sr eo fr q fun d s1 v H1 g1 st sr1 eo1 rv q1 =>
    ⟨d, D, e1, H0, g0, g1, s1, st0.trans st, sr1, eo1.set rv i, fr.set i v d, q1⟩
theorem EnvOk.setOwn {K : PySem.W.Frag} {H : Hp} {g : Gh} {σ : SS} {env : EnvD} (e : EnvOk K H g σ env) {a : Addr} {d : D} (o : Own K g.fi g.hb H a d) (nb : g.hb a = none) (nf : a ∉ g.fi) (i : Nat) (un : ∀ (j : Nat) (d' : D), env[j]? = some (some (.own d')) → σ[j]? = some (some (.ref a)) → j = i) : EnvOk K H g (σ.set i (some (.ref a))) (env.set i (some (.own d))) := by
  have here : ∀ {j : Nat} {c : C}, (env.set i (some (.own d)))[j]? = some (some c) → (j = i ∧ c = .own d ∧ i < env.length) ∨ (j ≠ i ∧ env[j]? = some (some c)) := fun {j c} h => by
    by_cases e' : i = j
    · subst e'
      by_cases hl : i < env.length
      · rw [List.getElem?_set_self hl] at h; cases h; exact .inl ⟨rfl, rfl, hl⟩
      · rw [List.getElem?_eq_none (by simpa using hl)] at h; cases h
    · rw [List.getElem?_set_ne e'] at h; exact .inr ⟨fun z => e' z.symm, h⟩
  refine ⟨by simp [e.len], fun j d' h => ?_, fun j d' h => ?_, fun j k d1 d2 b h1 h2 s1 s2 => ?_, fun j b dx fs h => ?_⟩
  · rcases here h with ⟨_, z, _⟩ | ⟨ne, h⟩
    · cases z
    · obtain ⟨w, h1, r1⟩ := e.val j d' h
      exact ⟨w, by rw [List.getElem?_set_ne (Ne.symm ne)]; exact h1, r1⟩
  · rcases here h with ⟨rfl, z, hl⟩ | ⟨ne, h⟩
    · cases z
      exact ⟨a, List.getElem?_set_self (by rw [← e.len]; exact hl), o, nb, nf⟩
    · obtain ⟨b, h1, o'⟩ := e.own j d' h
      exact ⟨b, by rw [List.getElem?_set_ne (Ne.symm ne)]; exact h1, o'⟩
  · rcases here h1 with ⟨ej, z, hl⟩ | ⟨ne, g1⟩
    · rcases here h2 with ⟨ek, z2, _⟩ | ⟨ne2, g2⟩
      · rw [ej, ek]
      · rw [ej, List.getElem?_set_self (by rw [← e.len]; exact hl)] at s1
        rw [List.getElem?_set_ne (Ne.symm ne2)] at s2
        cases s1
        rw [ej]
        exact (un k d2 g2 s2).symm
    · rcases here h2 with ⟨ek, z2, hl⟩ | ⟨ne2, g2⟩
      · rw [ek, List.getElem?_set_self (by rw [← e.len]; exact hl)] at s2
        rw [List.getElem?_set_ne (Ne.symm ne)] at s1
        cases s2
        rw [ek]
        exact un j d1 g1 s1
      · rw [List.getElem?_set_ne (Ne.symm ne)] at s1
        rw [List.getElem?_set_ne (Ne.symm ne2)] at s2
        exact e.dis j k d1 d2 b g1 g2 s1 s2
  · rcases here h with ⟨_, z, _⟩ | ⟨ne, h⟩
    · cases z
    · obtain ⟨h1, x⟩ := e.exc j b dx fs h
      exact ⟨by rw [List.getElem?_set_ne (Ne.symm ne)]; exact h1, x⟩
theorem OwnFr.setOwn {H0 : Hp} {σ : SS} (fr : OwnFr H0 σ env) (i : Nat) {a : Addr} (d : D) (ha : H0 a = none) : OwnFr H0 (σ.set i (some (.ref a))) (env.set i (some (.own d))) := fun j d' b h1 h2 => by
  by_cases e' : i = j
  · subst e'
    by_cases hl : i < σ.length
    · rw [List.getElem?_set_self hl] at h2; cases h2; exact ha
    · rw [List.getElem?_eq_none (by simpa using hl)] at h2; cases h2
  · rw [List.getElem?_set_ne e'] at h1 h2
    exact fr j d' b h1 h2
/-- from a fresh thing's reading to name = it -/
theorem own_next {m : M D} {k : D → M α} {i : Nat} (w : Weak xe env) {σ : SS} {H H0 : Hp} {g g0 : Gh} {s : Sto} {D D1 : Ends} (e1 : Ex U D D1) (st0 : Step H0 g0 H g) (sr : SR X.K H g s) (eo : EnvOk X.K H g σ env) (fr : OwnFr H0 σ env)
    (q : ((m >>= k) s).post (fun a s' => EndsOk X.K H0 g0 D s' (dec a)) (exS X.K H0 g0 xe W)) : tF X.K W env m σ H fun v H1 => gName i v σ H1 fun σ2 H2 => nexts X W xe U (fun d => env.set i (some (.own d))) k dec D1 σ2 H2 :=
  ⟨g, s, sr, eo, Res.post.imp (post_bind.mp q) (fun d s1 q1 a H1 g1 st sr1 hn o nb nf => by
    refine ⟨d, D, e1, H0, g0, g1, s1, st0.trans st, sr1, (eo.step st).setOwn o nb nf i (fun j d' h1 h2 => ?_), fr.setOwn i d (st0.live a hn), q1⟩
    obtain ⟨b, h3, o', _⟩ := eo.own j d' h1
    rw [h2] at h3
    cases h3
    obtain ⟨u, hu⟩ := o'.there
    rw [hn] at hu; cases hu) fun c fs s' x => exS.toP (s := s) x st0 eo fr w⟩
/-- name = a fresh list, which stays the def's own -/
theorem jc_setOwn (i : Nat) {x : Str} {pos' : Pos} {m : M D} {k : D → M α} (w : Weak xe env) (hN : X.N.Nodup) (h : JF X W env e m) (hr : ∀ d, JC X W xe (env.set i (some (.own d))) rest U (k d) dec) (hi : X.N[i]? = some x := by rfl) (hx : Loc X.env.scope x := by first | exact Or.inl rfl | exact Or.inr rfl)
    (hs : swapsWith e (some (.Name x pos')) pos.line X.env = pure false := by rfl) (hf : X.fn x = true ∨ X.env.scope.names.lookup x = some .local := by first | exact .inl rfl | exact .inr rfl) : JC X W xe env (.Assign [.Name x pos'] e pos :: rest) U (m >>= k) dec :=
  PSs.step (ps_set hN hi hx h hs hf) (nexts_run (f := fun d => env.set i (some (.own d))) (k := k) hr) fun D1 σ H ⟨D, e1, H0, g0, g, s, st0, sr, eo, fr, q⟩ => own_next w e1 st0 sr eo fr q
end
end DL

set_option maxRecDepth 100000
set_option autoImplicit false
/-! DL10: own lists changed, branches, loops, several targets. -/
namespace DL
open PySem PySem.Spec PyProof.Rows L2
section
variable {K : PySem.W.Frag} {H0 H : Hp} {g0 g : Gh} {s : Sto} {σ : SS} {env : EnvD}
/-- the def's own list at slot i gets another content -/
theorem own_upd {i : Nat} {d d' : D} {a : Addr} {o : HO} (st : Step H0 g0 H g) (sr : SR K H g s) (eo : EnvOk K H g σ env) (fr : OwnFr H0 σ env) (he : env[i]? = some (some (.own d))) (ha : σ[i]? = some (some (.ref a))) (hd : ∀ H' : Hp, H' a = some o → Own K g.fi g.hb H' a d')  :
    Step H0 g0 (upd H a o) g ∧ SR K (upd H a o) g s ∧ EnvOk K (upd H a o) g σ (env.set i (some (.own d'))) ∧ OwnFr H0 σ (env.set i (some (.own d'))) := by
  obtain ⟨a', h1, ow, nb, nf⟩ := eo.own i d he
  rw [ha] at h1
  cases h1
  have h0 : H0 a = none := fr i d a he ha
  have hi : i < env.length := (List.getElem?_eq_some_iff.mp he).1
  have here : ∀ {j : Nat} {c : C}, (env.set i (some (.own d')))[j]? = some (some c) → (j = i ∧ c = .own d') ∨ (j ≠ i ∧ env[j]? = some (some c)) := fun {j c} h => by
    by_cases e' : i = j
    · subst e'; rw [List.getElem?_set_self hi] at h; cases h; exact .inl ⟨rfl, rfl⟩
    · rw [List.getElem?_set_ne e'] at h; exact .inr ⟨fun z => e' z.symm, h⟩
  refine ⟨⟨st.hb, st.fi, fun b u h n => ?_, fun b h => ?_, st.newb, st.newf⟩, ⟨fun b u h => by rw [upd_ne (ne_of_none h nb)]; exact sr.sub _ _ h, sr.len, sr.nodup, sr.out, fun n b e h1 h2 => (sr.cell n b e h1 h2).mono .rfl .rfl fun u h => ?_⟩, ⟨by simp [eo.len], fun j e h => ?_, fun j e h => ?_, fun j k e1 e2 b h1 h2 => ?_, fun j b dx fs h => ?_⟩, fun j e b h1 h2 => ?_⟩
  · have : b ≠ a := fun z => by rw [z, h0] at h; cases h
    rw [upd_ne this]; exact st.frame b u h n
  · by_cases e : b = a
    · rw [e]; exact h0
    · rw [upd_ne e] at h; exact st.live b h
  · have : b ≠ a := fun z => nf (by rw [← z]; exact List.mem_of_getElem? h1)
    rw [upd_ne this]; exact h
  · rcases here h with ⟨_, z⟩ | ⟨ne, h⟩
    · cases z
    · exact eo.val j e h
  · rcases here h with ⟨rfl, z⟩ | ⟨ne, h⟩
    · cases z; exact ⟨a, ha, hd _ upd_same, nb, nf⟩
    · obtain ⟨b, h1, o', h2⟩ := eo.own j e h
      have : b ≠ a := fun z => ne (eo.dis j i e d a h he (by rw [← z]; exact h1) ha)
      exact ⟨b, h1, o'.mono .rfl .rfl fun u h => by rw [upd_ne this]; exact h, h2⟩
  · have o1 : ∃ e', env[j]? = some (some (.own e')) := by
      rcases here h1 with ⟨rfl, _⟩ | ⟨_, h⟩
      · exact ⟨d, he⟩
      · exact ⟨e1, h⟩
    have o2 : ∃ e', env[k]? = some (some (.own e')) := by
      rcases here h2 with ⟨rfl, _⟩ | ⟨_, h⟩
      · exact ⟨d, he⟩
      · exact ⟨e2, h⟩
    obtain ⟨_, o1⟩ := o1
    obtain ⟨_, o2⟩ := o2
    exact eo.dis j k _ _ b o1 o2
  · rcases here h with ⟨_, z⟩ | ⟨ne, h⟩
    · cases z
    · obtain ⟨h1, x⟩ := eo.exc j b dx fs h
      refine ⟨h1, ?_⟩
      rcases x with z | ⟨p, vs, e1, e2, e3⟩
      · exact .inl z
      · refine .inr ⟨p, vs, e1, ?_, e3⟩
        have : p ≠ a := fun z => by
          rw [z] at e2
          cases d with
          | lst ds => obtain ⟨_, q, _⟩ := ow; rw [q] at e2; cases e2
          | dct ds => obtain ⟨_, q, _⟩ := ow; rw [q] at e2; cases e2
          | obj c ds => obtain ⟨_, _, q, _⟩ := ow; rw [q] at e2; cases e2
          | _ => exact ow.elim
        rw [upd_ne this]; exact e2
  · have o1 : ∃ e', env[j]? = some (some (.own e')) := by
      rcases here h1 with ⟨rfl, _⟩ | ⟨_, h⟩
      · exact ⟨d, he⟩
      · exact ⟨e, h⟩
    obtain ⟨_, o1⟩ := o1
    exact fr j _ b o1 h2
end
section
variable {X : Cx} {W : WX} {xe env : EnvD} {α : Type} {dec : α → Flo} {U : TS} {rest : List Stmt} {e : Expr} {pos : Pos}
/-- x.append(e), x the def's own -/
theorem jc_append (i : Nat) {x : Str} {p ap cp : Pos} {m : M D} {k : D → M α} {xs : List D} (w : Weak xe env) (h : JE X W env e m) (hr : ∀ d, JC X W xe (env.set i (some (.own (.lst (xs ++ [d]))))) rest U (k d) dec) (he : env[i]? = some (some (.own (.lst xs))) := by rfl) (hN : X.N[i]? = some x := by rfl) (hv : Vis X.env.scope x := by first | exact Or.inl rfl | exact Or.inr (Or.inl rfl) | exact Or.inr (Or.inr rfl))
    (hbase : attributeBase (.Name x p) "append" X.env (eval (.Name x p) X.env) = eval (.Name x p) X.env := by rfl)
    (hfew : ((backTo cp (starEach [e] X.env)).all (fun x => !x.1) && (backToKw cp (keywordEach [] X.env)).all (fun x => x.1.isSome)
      && decide ([e].length + ([] : List Keyword).length + (if ([] : List Keyword).isEmpty then 0 else 1) < 30)) = true := by rfl)
    (hline : (ap.endLine == cp.line) = true := by rfl) (hst : starEach [e] X.env = (false, eval e X.env) :: starEach [] X.env := by rfl) (hplain : (backTo cp (starEach [] X.env)).any (·.1) = false := by rfl)
    (hd : (x == ("__debug__" : Str)) = false := by decide) (hcd : (x == ("__classdict__" : Str)) = false := by decide)
    (hs : swapsWith (.Call (.Attribute (.Name x p) "append" ap) [e] [] cp) none pos.line X.env = pure false := by rfl) :
    JC X W xe env (.Expr (.Call (.Attribute (.Name x p) "append" ap) [e] [] cp) pos :: rest) U (m >>= fun d => if Op.lenOk (xs.length + 1) then k d else M.bad) dec :=
  PSs.step (ps_expr (pe_bm PySem.F.plainAttrs_list PySem.F.slot_list_append PySem.F.type_list_append mt_append (pe_var hN hv hd hcd) (pa_cons h pa_nil hst) hbase hfew hline hst hplain) hs) (nexts_run (f := fun d => env.set i (some (.own (.lst (xs ++ [d]))))) (k := k) hr)
    fun D1 σ H ⟨D, e1, H0, g0, g, s, st0, sr, eo, fr, q⟩ => by
      obtain ⟨a, h1, ow, nb, nf⟩ := eo.own i _ he
      obtain ⟨vs, hH, rl⟩ := ow
      refine ⟨_, h1, .inl ⟨rfl, vs, SqL.of hH⟩, tS.expr (Rl := RS X.K) w st0 sr eo fr q fun d s1 v H1 g1 st sr1 eo1 rv q1 => ?_⟩
      split at q1
      · rename_i c
        obtain ⟨a', h1', ow', nb', nf'⟩ := eo1.own i _ he
        rw [h1] at h1'
        cases h1'
        obtain ⟨vs', hH', rl'⟩ := ow'
        have hl := lenOk_le c
        refine ⟨a, vs', v, rfl, rfl, hH', by rw [rl'.length]; omega, ?_⟩
        obtain ⟨st2, sr2, eo2, fr2⟩ := own_upd (o := .lst (vs' ++ [v])) (d' := .lst (xs ++ [d])) (st0.trans st) sr1 eo1 fr he h1 fun H' z => ⟨_, z, rl'.app (.cons rv .nil)⟩
        exact ⟨d, D, e1, H0, g0, g1, s1, st2, sr2, eo2, fr2, q1⟩
      · exact q1.elim
/-! one's own becomes immutable -/
theorem jc_freeze (i : Nat) {d : D} {A : List Stmt} {m : M α} (he : env[i]? = some (some (.own d))) (h : JC X W xe (env.set i (some (.val d))) A U m dec) : JC X W xe env A U m dec := ⟨fun pins s σ H D1 I ⟨D, e1, H0, g0, g, st, st0, sr, eo, fr, q⟩ => by
  refine h.run pins s σ H D1 I ⟨D, e1, ?_⟩
  obtain ⟨a, h1, ow, nb, nf⟩ := eo.own i d he
  obtain ⟨g2, st2, sr2, r, sb, fi, fz⟩ := freeze st0 sr (fr i d a he h1) ow nb nf
  have hi : i < env.length := (List.getElem?_eq_some_iff.mp he).1
  have here : ∀ {j : Nat} {c : C}, (env.set i (some (.val d)))[j]? = some (some c) → (j = i ∧ c = .val d) ∨ (j ≠ i ∧ env[j]? = some (some c)) := fun {j c} h => by
    by_cases e' : i = j
    · subst e'; rw [List.getElem?_set_self hi] at h; cases h; exact .inl ⟨rfl, rfl⟩
    · rw [List.getElem?_set_ne e'] at h; exact .inr ⟨fun z => e' z.symm, h⟩
  have pf : Pre g.fi g2.fi := by rw [fi]; exact .rfl
  refine ⟨H0, g0, g2, st, st2, sr2, ⟨by simp [eo.len], fun j e h => ?_, fun j e h => ?_, fun j k e1 e2 b h1 h2 => ?_, fun j b dx fs h => ?_⟩, fun j e b h2 h3 => ?_, q⟩
  · rcases here h with ⟨rfl, z⟩ | ⟨ne, h⟩
    · cases z; exact ⟨_, h1, r⟩
    · obtain ⟨v, h2, r2⟩ := eo.val j e h
      exact ⟨v, h2, r2.mono sb pf⟩
  · rcases here h with ⟨_, z⟩ | ⟨ne, h⟩
    · cases z
    · obtain ⟨b, h2, o2, nb2, nf2⟩ := eo.own j e h
      have hba : b ≠ a := fun z => ne (eo.dis j i e d a h he (by rw [← z]; exact h2) h1)
      exact ⟨b, h2, o2.mono sb pf fun _ h => h, by rw [fz b hba]; exact nb2, by rw [fi]; exact nf2⟩
  · rcases here h1 with ⟨_, z⟩ | ⟨_, h1⟩
    · cases z
    · rcases here h2 with ⟨_, z⟩ | ⟨_, h2⟩
      · cases z
      · exact eo.dis j k e1 e2 b h1 h2
  · rcases here h with ⟨_, z⟩ | ⟨ne, h⟩
    · cases z
    · obtain ⟨h2, x⟩ := eo.exc j b dx fs h
      refine ⟨h2, ?_⟩
      rcases x with z | ⟨p, vs, e1, e2, e3, e4⟩
      · exact .inl z
      · exact .inr ⟨p, vs, e1, e2, by rw [fi]; exact e3, e4.mono sb pf⟩
  · rcases here h2 with ⟨_, z⟩ | ⟨_, h2⟩
    · cases z
    · exact fr j e b h2 h3⟩
/-! branches -/
/-- a statement in the midst, its branches then what follows -/
def afterD (X : Cx) (W : WX) (xe : EnvD) (rest : List Stmt) (U : TS) : TS := fun D1 σ H => ∃ D, Ex U D D1 ∧ after X W xe rest U D σ H
theorem after_run : PSs X rest (afterD X W xe rest U) := ⟨fun pins s σ H D1 I ⟨D, e1, β, env', m', dec', hj, ht⟩ => hj.run pins s σ H D1 I ⟨D, e1, ht⟩⟩
theorem jc_if {c : Expr} {A B : List Stmt} {mc : M Bool} {mA mB : M α} (w : Weak xe env) (hc : JT X W env c mc) (hA : JC X W xe env A (after X W xe rest U) mA dec) (hB : JC X W xe env B (after X W xe rest U) mB dec) : JC X W xe env (.If c A B pos :: rest) U (mc >>= fun b => if b then mA else mB) dec :=
  PSs.step (ps_if hc hA hB) after_run fun D1 σ H ⟨D, e1, H0, g0, g, s, st0, sr, eo, fr, q⟩ => tS.expr (Rl := RT) w st0 sr eo fr q fun b s1 b' H1 g1 st sr1 eo1 rb q1 => by
    cases rb
    have ex : Ex (after X W xe rest U) D { D1 with nx := afterD X W xe rest U D1 } := ⟨e1.rt, e1.bk, e1.ct, fun σ H h => ⟨D, e1, h⟩⟩
    cases b with
    | true => rw [if_pos rfl]; exact ⟨D, ex, H0, g0, g1, s1, st0.trans st, sr1, eo1, fr, q1⟩
    | false => rw [if_neg Bool.false_ne_true]; exact ⟨D, ex, H0, g0, g1, s1, st0.trans st, sr1, eo1, fr, q1⟩
/-! a statement as a whole, then what follows: it goes on with e t, or returns -/
inductive Fl (τ : Type) where
  | nx (t : τ) | rt (d : D) | bk (t : τ)
def decN {τ : Type} (eN : τ → EnvD) : τ → Flo := fun t => .nx (eN t)
def decF {τ : Type} (eN : τ → EnvD) : Fl τ → Flo
  | .nx t => .nx (eN t)
  | .rt d => .rt d
  | .bk t => .bk (eN t)
theorem jc_nx {τ : Type} {st : Stmt} {eN : τ → EnvD} {m : M τ} {k : τ → M α} (h1 : J1 X W xe env st m (decN eN)) (hr : ∀ t, JC X W xe (eN t) rest U (k t) dec) : JC X W xe env (st :: rest) U (m >>= k) dec :=
  PSs.step h1 (nexts_run (f := eN) (k := k) hr) fun D1 σ H ⟨D, e1, H0, g0, g, s, st0, sr, eo, fr, q⟩ => ⟨H0, g0, g, s, st0, sr, eo, fr, Res.post.imp (post_bind.mp q) (fun t s1 q1 σ' H' g' st' sr' eo' fr' => ⟨t, D, e1, H0, g0, g', s1, st', sr', eo', fr', q1⟩) fun _ _ _ x => x⟩
theorem jc_fl {τ : Type} {st : Stmt} {eN : τ → EnvD} {m : M (Fl τ)} {k : τ → M α} {r : D → α} (h1 : J1 X W xe env st m (decF eN)) (hr : ∀ t, JC X W xe (eN t) rest U (k t) dec) (hd : ∀ d, dec (r d) = .rt d ∨ dec (r d) = .fin d) :
    JC X W xe env (st :: rest) U (m >>= fun f => match f with
      | .nx t => k t
      | .rt d => pure (r d)
      | .bk _ => M.bad) dec :=
  PSs.step h1 (nexts_run (f := eN) (k := k) hr) fun D1 σ H ⟨D, e1, H0, g0, g, s, st0, sr, eo, fr, q⟩ => ⟨H0, g0, g, s, st0, sr, eo, fr, Res.post.imp (post_bind.mp q) (fun f s1 q1 => by
    cases f with
    | nx t => intro σ' H' g' st' sr' eo' fr'; exact ⟨t, D, e1, H0, g0, g', s1, st', sr', eo', fr', q1⟩
    | rt d =>
      intro v H' g' st' sr' rv
      show D1.rt v H'
      rw [e1.rt]
      have q2 : EndsOk X.K H0 g0 D s1 (dec (r d)) := q1
      rcases hd d with z | z
      · rw [z] at q2; exact q2 v H' g' st' sr' rv
      · rw [z] at q2; exact q2.1 v H' g' st' sr' rv
    | bk t => exact q1.elim) fun _ _ _ x => x⟩
/-- an if as a whole -/
theorem j1_if {c : Expr} {A B : List Stmt} {mc : M Bool} {mA mB : M α} (w : Weak xe env) (hc : JT X W env c mc) (hA : JC X W xe env A U0 mA dec) (hB : JC X W xe env B U0 mB dec) : J1 X W xe env (.If c A B pos) (mc >>= fun b => if b then mA else mB) dec :=
  PS.imp (ps_if hc hA hB) fun D σ H ⟨H0, g0, g, s, st0, sr, eo, fr, q⟩ => tS.expr (Rl := RT) w st0 sr eo fr q fun b s1 b' H1 g1 st sr1 eo1 rb q1 => by
    cases rb
    have ex : Ex U0 D D := ⟨rfl, rfl, rfl, fun _ _ h => h⟩
    cases b with
    | true => rw [if_pos rfl]; exact ⟨D, ex, H0, g0, g1, s1, st0.trans st, sr1, eo1, fr, q1⟩
    | false => rw [if_neg Bool.false_ne_true]; exact ⟨D, ex, H0, g0, g1, s1, st0.trans st, sr1, eo1, fr, q1⟩
/-! ### for -/
/-- the loop's run: t what is carried -/
def forF {τ : Type} (body : D → τ → M (Fl τ)) : List D → τ → M (Fl τ)
  | [], t => pure (.nx t)
  | x :: xs, t => body x t >>= fun f => match f with
    | .nx t' => forF body xs t'
    | .bk t' => pure (.nx t')
    | .rt d => pure (.rt d)
/-- .. that neither leaves nor breaks -/
def forN {τ : Type} (body : D → τ → M τ) : List D → τ → M τ
  | [], t => pure t
  | x :: xs, t => body x t >>= fun t' => forN body xs t'
def decB {τ : Type} (eN : τ → EnvD) : Fl τ → Flo
  | .nx t => .nc (eN t)
  | .rt d => .rt d
  | .bk t => .bk (eN t)
/-- the state without one's own lists, as a loop's entry -/
theorem hideOwn {K : PySem.W.Frag} {H0 H : Hp} {g0 g : Gh} {σ : SS} {env : EnvD} (st : Step H0 g0 H g) (fr : OwnFr H0 σ env) : ∃ Hb, Step H0 g0 Hb g ∧ Step Hb g H g ∧ OwnFr Hb σ env := by
  classical
  refine ⟨fun a => if ∃ (i : Nat) (d : D), env[i]? = some (some (.own d)) ∧ σ[i]? = some (some (.ref a)) then none else H a, ⟨st.hb, st.fi, fun a o h n => ?_, fun a h => ?_, st.newb, st.newf⟩, ⟨.rfl, .rfl, fun a o h _ => ?_, fun a h => ?_, fun a h _ => h, fun a h _ => h⟩, fun i d a h1 h2 => if_pos ⟨i, d, h1, h2⟩⟩
  · rw [if_neg]
    · exact st.frame a o h n
    · rintro ⟨i, d, h1, h2⟩
      rw [fr i d a h1 h2] at h; cases h
  · by_cases c : ∃ (i : Nat) (d : D), env[i]? = some (some (.own d)) ∧ σ[i]? = some (some (.ref a))
    · obtain ⟨i, d, h1, h2⟩ := c
      exact fr i d a h1 h2
    · have h' : (if ∃ (i : Nat) (d : D), env[i]? = some (some (.own d)) ∧ σ[i]? = some (some (.ref a)) then none else H a) = none := h
      rw [if_neg c] at h'; exact st.live a h'
  · have h' : (if ∃ (i : Nat) (d : D), env[i]? = some (some (.own d)) ∧ σ[i]? = some (some (.ref a)) then none else H a) = some o := h
    split at h'
    · cases h'
    · exact h'
  · show (if ∃ (i : Nat) (d : D), env[i]? = some (some (.own d)) ∧ σ[i]? = some (some (.ref a)) then none else H a) = none
    split
    · rfl
    · exact h
theorem exS.into {K : PySem.W.Frag} {H0 Hb : Hp} {g0 gb : Gh} {xe : EnvD} {W : WX} {c : Str} {fs : List (Str × D)} {s' : Sto} (x : exS K H0 g0 xe W c fs s') (st : Step H0 g0 Hb gb) : exS K Hb gb xe W c fs s' :=
  fun σ' H' g' dx st' sr' eo fr r => x σ' H' g' dx (st.trans st') sr' eo (fun i d a h1 h2 => st.live a (fr i d a h1 h2)) r
theorem j1_forF {τ β : Type} {tg iter : Expr} {body : List Stmt} {g : TG} {slots : List Nat} {tf : D → M β} {ef : EnvD → β → EnvD} {eN : τ → EnvD} {mi : M (List D)} {mb : τ → β → M (Fl τ)} {t0 : τ} (hp : PassesOwn (model X.prog X.w) X.A X.env X.xe) (hc : X.calm = true) (w : Weak xe env)
    (hi : JI X W env tg iter mi) (hg : PG X tg g) (hgo : GOk X.K g slots tf ef) (h0 : Weak (eN t0) env) (hb : ∀ t b, JC X W xe (ef (eN t) b) body U0 (mb t b) (decB eN))
    (hs : ∀ x, foldedSetIterable iter X.env x = pure x := by intro _; rfl) :
    J1 X W xe env (.For tg iter body [] pos) (mi >>= fun xs => forF (fun x t => tf x >>= fun b => mb t b) xs t0) (decF eN) := by
  refine PS.imp (ps_for hp hc hi hg (tb := fun D1 σ H => ∃ (t : τ) (b : β), ∃ Dn : Ends, Ex U0 Dn D1 ∧ tS X.K W xe (ef (eN t) b) (mb t b) (decB eN) Dn σ H) ⟨fun pins s σ H D1 I ⟨t, b, h⟩ => (hb t b).run pins s σ H D1 I h⟩ hs) fun Dn σ H ⟨H0, g0, gg, s, st0, sr, eo, fr, q⟩ => ?_
  refine ⟨gg, s, sr, eo, Res.post.imp (post_bind.mp q) (fun ds s1 q1 H1 g1 J st sr1 wk => ?_) fun c fs s' x => exS.toP (s := s) x st0 eo fr w⟩
  let F : D → τ → M (Fl τ) := fun x t => tf x >>= fun b => mb t b
  obtain ⟨Hb, stb, stc, frb⟩ := hideOwn (K := X.K) (st0.trans st) (fr.weak h0)
  refine ⟨fun i mm σ' H' => mm = ds.length - i ∧ i ≤ ds.length ∧ ∃ g2 s2 t, Step Hb g1 H' g2 ∧ SR X.K H' g2 s2 ∧ EnvOk X.K H' g2 σ' (eN t) ∧ OwnFr Hb σ' (eN t) ∧
    (forF F (ds.drop i) t s2).post (fun a s' => EndsOk X.K H0 g0 Dn s' (decF eN a)) (exS X.K H0 g0 xe W), ⟨ds.length, by simp, Nat.zero_le _, g1, s1, t0, stc, sr1, (eo.step st).weak h0, frb, q1⟩, ?_⟩
  rintro i mm σ' H' ⟨rfl, hi', g2, s2, t, st2, sr2, eo2, fr2, q2⟩
  obtain ⟨wgo, wstop⟩ := wk H' g2 st2.hb st2.fi sr2.sub
  by_cases hlt : i < ds.length
  · have dr : ds.drop i = ds[i] :: ds.drop (i + 1) := List.drop_eq_getElem_cons hlt
    rw [dr] at q2
    let Nn : SS → Hp → Prop := fun σ3 H3 => ∃ g3 s3 t3, Step Hb g1 H3 g3 ∧ SR X.K H3 g3 s3 ∧ EnvOk X.K H3 g3 σ3 (eN t3) ∧ OwnFr Hb σ3 (eN t3) ∧
      (forF F (ds.drop (i + 1)) t3 s3).post (fun a s' => EndsOk X.K H0 g0 Dn s' (decF eN a)) (exS X.K H0 g0 xe W)
    refine .inr ⟨(wgo i _ (List.getElem?_eq_getElem hlt)).1, Nn, fun σ3 H3 h3 => ⟨ds.length - (i + 1), by omega, rfl, hlt, h3⟩, fun v H3 y => ?_⟩
    obtain ⟨g3, st3, srf, rv⟩ := (wgo i _ (List.getElem?_eq_getElem hlt)).2 v H3 y
    have sr3 := srf s2 sr2
    have q3 := post_bind.mp (show ((F ds[i] t >>= fun f => match f with
      | Fl.nx t' => forF F (ds.drop (i + 1)) t'
      | Fl.bk t' => pure (Fl.nx t')
      | Fl.rt d => pure (Fl.rt d)) s2).post (fun a s' => EndsOk X.K H0 g0 Dn s' (decF eN a)) (exS X.K H0 g0 xe W) from q2)
    have q4 := post_bind.mp (show ((tf ds[i] >>= fun b => mb t b) s2).post _ _ from q3)
    cases etf : tf ds[i] s2 with
    | ex c d s3 => exact absurd etf (hgo.nx _ s2 c d s3)
    | bad => rw [etf] at q4; exact q4.elim
    | ok b s3 =>
    rw [etf] at q4
    obtain ⟨rfl, go⟩ := hgo.go (eN t) σ' H3 g3 s2 s3 v ds[i] b (fun σ2 H2 => (fun D1 σ H => ∃ (t : τ) (b : β), ∃ Dn : Ends, Ex U0 Dn D1 ∧ tS X.K W xe (ef (eN t) b) (mb t b) (decB eN) Dn σ H) { Dn with nx := Nn, ct := Nn, bk := Dn.nx } σ2 H2) sr3 (eo2.step st3) rv etf
    refine go fun σ4 eo4 _ same => ⟨t, b, _, ⟨rfl, rfl, rfl, fun _ _ h => h⟩, Hb, g1, g3, s3, st2.trans st3, sr3, eo4, fun j d a h1 h2 => ?_, Res.post.imp q4 (fun f s5 q5 => ?_) fun _ _ _ x => x.into stb⟩
    · obtain ⟨nj, h3⟩ := hgo.ow _ _ j d h1
      rw [same j nj] at h2
      exact fr2 j d a h3 h2
    · cases f with
      | nx t' =>
        intro σ5 H5 g5 st5 sr5 eo5 fr5
        exact ⟨⟨g5, s5, t', st5, sr5, eo5, fr5, q5⟩, ⟨g5, s5, t', st5, sr5, eo5, fr5, q5⟩⟩
      | rt d =>
        intro v5 H5 g5 st5 sr5 r5
        exact (show EndsOk X.K H0 g0 Dn s5 (.rt d) from q5) v5 H5 g5 (stb.trans st5) sr5 r5
      | bk t' =>
        intro σ5 H5 g5 st5 sr5 eo5 fr5
        exact (show EndsOk X.K H0 g0 Dn s5 (.nx (eN t')) from q5) σ5 H5 g5 (stb.trans st5) sr5 eo5 fun j d a h1 h2 => stb.live a (fr5 j d a h1 h2)
  · have e : i = ds.length := by omega
    subst e
    rw [List.drop_length] at q2
    exact .inl ⟨wstop _ (Nat.le_refl _), (show EndsOk X.K H0 g0 Dn s2 (.nx (eN t)) from q2) σ' H' g2 (stb.trans st2) sr2 eo2 fun j d a h1 h2 => stb.live a (fr2 j d a h1 h2)⟩
end
end DL

set_option maxRecDepth 100000
set_option autoImplicit false
/-! DL11: more loops and stores. -/
namespace DL
open PySem PySem.Spec PyProof.Rows L2
section
variable {X : Cx} {W : WX} {xe env : EnvD} {α : Type} {dec : α → Flo} {U : TS} {rest : List Stmt} {e : Expr} {pos : Pos}
theorem tS.map {K : PySem.W.Frag} {β : Type} {m : M α} {f : α → β} {dec' : β → Flo} {D : Ends} {σ : SS} {H : Hp} (hf : ∀ a, dec' (f a) = dec a) : tS K W xe env (m >>= fun a => pure (f a)) dec' D σ H ↔ tS K W xe env m dec D σ H := by
  constructor
  · rintro ⟨H0, g0, g, s, st, sr, eo, fr, q⟩
    exact ⟨H0, g0, g, s, st, sr, eo, fr, Res.post.imp (post_bind.mp q) (fun a s' x => by have x' : EndsOk K H0 g0 D s' (dec' (f a)) := x; rw [hf] at x'; exact x') fun _ _ _ x => x⟩
  · rintro ⟨H0, g0, g, s, st, sr, eo, fr, q⟩
    exact ⟨H0, g0, g, s, st, sr, eo, fr, post_bind.mpr (Res.post.imp q (fun a s' x => by show EndsOk K H0 g0 D s' (dec' (f a)); rw [hf]; exact x) fun _ _ _ x => x)⟩
theorem JC.map {β : Type} {A : List Stmt} {m : M α} {f : α → β} {dec' : β → Flo} (h : JC X W xe env A U m dec) (hf : ∀ a, dec' (f a) = dec a) : JC X W xe env A U (m >>= fun a => pure (f a)) dec' :=
  PSs.imp h fun D1 σ H ⟨D, e1, q⟩ => ⟨D, e1, (tS.map hf).mp q⟩
theorem forF_N {τ : Type} (body : D → τ → M τ) : ∀ (xs : List D) (t : τ), forF (fun x t => body x t >>= fun t' => pure (Fl.nx t')) xs t = (forN body xs t >>= fun t' => pure (Fl.nx t'))
  | [], t => rfl
  | x :: xs, t => by
    show ((body x t >>= fun t' => pure (Fl.nx t')) >>= _) = ((body x t >>= fun t' => forN body xs t') >>= _)
    rw [bind_assoc, bind_assoc]
    congr 1
    funext t'
    rw [pure_bind]
    exact forF_N body xs t'
def decNB {τ : Type} (eN : τ → EnvD) : τ → Flo := fun t => .nc (eN t)
theorem j1_forN {τ β : Type} {tg iter : Expr} {body : List Stmt} {g : TG} {slots : List Nat} {tf : D → M β} {ef : EnvD → β → EnvD} {eN : τ → EnvD} {mi : M (List D)} {mb : τ → β → M τ} {t0 : τ} (hp : PassesOwn (model X.prog X.w) X.A X.env X.xe) (hc : X.calm = true) (w : Weak xe env)
    (hi : JI X W env tg iter mi) (hg : PG X tg g) (hgo : GOk X.K g slots tf ef) (h0 : Weak (eN t0) env) (hb : ∀ t b, JC X W xe (ef (eN t) b) body U0 (mb t b) (decNB eN))
    (hs : ∀ x, foldedSetIterable iter X.env x = pure x := by intro _; rfl) :
    J1 X W xe env (.For tg iter body [] pos) (mi >>= fun xs => forN (fun x t => tf x >>= fun b => mb t b) xs t0) (decN eN) := by
  have h := j1_forF (pos := pos) (mb := fun t b => mb t b >>= fun t' => pure (Fl.nx t')) hp hc w hi hg hgo h0 (fun t b => (hb t b).map (f := Fl.nx) (dec' := decB eN) fun _ => rfl) hs
  refine PS.imp h fun D σ H q => ?_
  have e : (mi >>= fun xs => forF (fun x t => tf x >>= fun b => mb t b >>= fun t' => pure (Fl.nx t')) xs t0) = ((mi >>= fun xs => forN (fun x t => tf x >>= fun b => mb t b) xs t0) >>= fun t => pure (Fl.nx t)) := by
    rw [bind_assoc]
    congr 1
    funext xs
    rw [← forF_N]
    congr 1
    funext x t
    rw [bind_assoc]
  rw [e]
  exact (tS.map (f := Fl.nx) (dec' := decF eN) (dec := decN eN) fun _ => rfl).mpr q
/-! ### while -/
def whileF {τ : Type} (c : τ → M Bool) (b : τ → M (Fl τ)) : Nat → τ → M (Fl τ)
  | 0, _ => M.bad
  | n + 1, t => c t >>= fun x => if x then b t >>= fun f => (match f with
    | .nx t' => whileF c b n t'
    | .bk t' => pure (.nx t')
    | .rt d => pure (.rt d)) else pure (.nx t)
theorem j1_while {τ : Type} {c : Expr} {body : List Stmt} {eN : τ → EnvD} {mc : τ → M Bool} {mb : τ → M (Fl τ)} {t0 : τ} {n : Nat} (hp : PassesOwn (model X.prog X.w) X.A X.env X.xe) (wN : ∀ t, Weak xe (eN t)) (hc : ∀ t, JT X W (eN t) c (mc t)) (hb : ∀ t, JC X W xe (eN t) body U0 (mb t) (decB eN)) (h0 : Weak (eN t0) env) :
    J1 X W xe env (.While c body [] pos) (whileF mc mb n t0) (decF eN) := by
  refine PS.imp (ps_while hp (tc := fun σ H Q => ∃ t, tX X.K W (eN t) RT (mc t) σ H Q) (tb := fun D1 σ H => ∃ (t : τ), ∃ Dn : Ends, Ex U0 Dn D1 ∧ tS X.K W xe (eN t) (mb t) (decB eN) Dn σ H) ⟨fun pins s σ H Q I ⟨t, h⟩ => (hc t).run pins s σ H Q I h⟩ ⟨fun pins s σ H D1 I ⟨t, h⟩ => (hb t).run pins s σ H D1 I h⟩) fun Dn σ H ⟨H0, g0, gg, s, st0, sr, eo, fr, q⟩ => ?_
  obtain ⟨Hb, stb, stc, frb⟩ := hideOwn (K := X.K) st0 (fr.weak h0)
  refine ⟨fun mm σ' H' => ∃ g2 s2 t, Step Hb gg H' g2 ∧ SR X.K H' g2 s2 ∧ EnvOk X.K H' g2 σ' (eN t) ∧ OwnFr Hb σ' (eN t) ∧ (whileF mc mb mm t s2).post (fun a s' => EndsOk X.K H0 g0 Dn s' (decF eN a)) (exS X.K H0 g0 xe W), ⟨n, gg, s, t0, stc, sr, eo.weak h0, frb, q⟩, ?_⟩
  rintro mm σ' H' ⟨g2, s2, t, st2, sr2, eo2, fr2, q2⟩
  cases mm with
  | zero => exact q2.elim
  | succ mm =>
    refine ⟨t, tX.mk sr2 eo2 (Res.post.imp (post_bind.mp (show ((mc t >>= fun x => if x then mb t >>= fun f => (match f with
      | Fl.nx t' => whileF mc mb mm t'
      | Fl.bk t' => pure (Fl.nx t')
      | Fl.rt d => pure (Fl.rt d)) else pure (Fl.nx t)) s2).post (fun a s' => EndsOk X.K H0 g0 Dn s' (decF eN a)) (exS X.K H0 g0 xe W) from q2)) (fun b s3 q3 b' H3 g3 st3 sr3 eo3 rb => ?_) fun c fs s' x => exS.toP (s := s2) (x.into stb) st2 eo2 fr2 (wN t))⟩
    cases rb
    cases b with
    | false =>
      rw [if_neg Bool.false_ne_true]
      exact (show EndsOk X.K H0 g0 Dn s3 (.nx (eN t)) from q3) σ' H3 g3 ((stb.trans st2).trans st3) sr3 eo3 fun j d a h1 h2 => stb.live a (fr2 j d a h1 h2)
    | true =>
      rw [if_pos rfl]
      refine ⟨fun σ' H' => ∃ g2 s2 t, Step Hb gg H' g2 ∧ SR X.K H' g2 s2 ∧ EnvOk X.K H' g2 σ' (eN t) ∧ OwnFr Hb σ' (eN t) ∧ (whileF mc mb mm t s2).post (fun a s' => EndsOk X.K H0 g0 Dn s' (decF eN a)) (exS X.K H0 g0 xe W), fun σ4 H4 h4 => ⟨mm, Nat.lt_succ_self _, h4⟩, t, _, ⟨rfl, rfl, rfl, fun _ _ h => h⟩, Hb, gg, g3, s3, st2.trans st3, sr3, eo3, fr2, Res.post.imp (post_bind.mp q3) (fun f s5 q5 => ?_) fun _ _ _ x => x.into stb⟩
      cases f with
      | nx t' =>
        intro σ5 H5 g5 st5 sr5 eo5 fr5
        exact ⟨⟨g5, s5, t', st5, sr5, eo5, fr5, q5⟩, ⟨g5, s5, t', st5, sr5, eo5, fr5, q5⟩⟩
      | rt d =>
        intro v5 H5 g5 st5 sr5 r5
        exact (show EndsOk X.K H0 g0 Dn s5 (.rt d) from q5) v5 H5 g5 (stb.trans st5) sr5 r5
      | bk t' =>
        intro σ5 H5 g5 st5 sr5 eo5 fr5
        exact (show EndsOk X.K H0 g0 Dn s5 (.nx (eN t')) from q5) σ5 H5 g5 (stb.trans st5) sr5 eo5 fun j d a h1 h2 => stb.live a (fr5 j d a h1 h2)
/-! ### name = [..comprehension..] -/
section
variable {β : Type} {elt tg iter : Expr} {ifs : List Expr} {scope : Scope} {own : List (Str × Nat)} {g : TG} {slots : List Nat} {tf : D → M β} {ef : EnvD → β → EnvD} {mi : M (List D)} {mt : β → M Bool} {me : β → M D}
theorem jc_setOwnLc (i : Nat) {x : Str} {pos' cpos : Pos} {k : D → M α} (w : Weak xe env) (hc : X.calm = true) (hN : X.N.Nodup) (hsw : swapsWith (.ListComp elt [⟨tg, iter, ifs, 0⟩] scope cpos) (some (.Name x pos')) pos.line X.env = pure true)
    (hi : JIb X W env tg iter mi) (ok : BlkOk X.N X.env.scope scope own) (hg : ∀ (s : Shared) (H : Hp) (C : Addr) (cl : List (Str × Addr)) (fp : List Addr), PG (X.blk s H scope (compEnvC scope cl C X.env) fp) tg g) (hgo : GOk X.K g slots tf ef) (hsl : ∀ i ∈ slots, i ∈ own.map (·.2))
    (ht : ∀ (s : Shared) (H : Hp) (C : Addr) (cl : List (Str × Addr)) (fp : List Addr) (x : β), PTs (X.blk s H scope (compEnvC scope cl C X.env) fp) ifs (tX X.K (fun _ _ _ _ => False) (ef (wipeE env (own.map (·.2))) x) RT (mt x)))
    (he : ∀ (s : Shared) (H : Hp) (C : Addr) (cl : List (Str × Addr)) (fp : List Addr) (x : β), JE (X.blk s H scope (compEnvC scope cl C X.env) fp) (fun _ _ _ _ => False) (ef (wipeE env (own.map (·.2))) x) elt (me x))
    (hr : ∀ d, JC X W xe (env.set i (some (.own d))) rest U (k d) dec)
    (hs : ∀ x, foldedSetIterable iter X.env x = pure x := by intro _; rfl) (hy : X.N[i]? = some x := by rfl) (hyl : X.env.scope.names.lookup x = some .local := by rfl) :
    JC X W xe env (.Assign [.Name x pos'] (.ListComp elt [⟨tg, iter, ifs, 0⟩] scope cpos) pos :: rest) U ((mi >>= comp fun x => tf x >>= fun a => mt a >>= fun b => if b then me a >>= fun y => pure (some y) else pure none) >>= k) dec := by
  have ht' : ∀ (s : Shared) (H : Hp) (C : Addr) (cl : List (Str × Addr)) (fp : List Addr), PTs (X.blk s H scope (compEnvC scope cl C X.env) fp) ifs (lcT X.K env (own.map (·.2)) ef mt) := fun s H C cl fp => ⟨fun pins s' σ H' Q I ⟨x, h⟩ => (ht s H C cl fp x).run pins s' σ H' Q I h⟩
  have he' : ∀ (s : Shared) (H : Hp) (C : Addr) (cl : List (Str × Addr)) (fp : List Addr), PE (X.blk s H scope (compEnvC scope cl C X.env) fp) elt (lcE X.K env (own.map (·.2)) ef me) := fun s H C cl fp => ⟨fun pins s' σ H' Q I ⟨x, h⟩ => (he s H C cl fp x).run pins s' σ H' Q I h⟩
  exact PSs.step (ps_setLc hc hN hy hyl hsw hi ok hg ht' he' hs) (nexts_run (f := fun d => env.set i (some (.own d))) (k := k) hr) fun D1 σ H ⟨Dn, e1, H0, g0, gg, s, st0, sr, eo, fr, q⟩ => lc_imp hgo hsl (own_next w e1 st0 sr eo fr q)
theorem jc_setLc (i : Nat) {x : Str} {pos' cpos : Pos} {k : D → M α} (w : Weak xe env) (hc : X.calm = true) (hN : X.N.Nodup) (hsw : swapsWith (.ListComp elt [⟨tg, iter, ifs, 0⟩] scope cpos) (some (.Name x pos')) pos.line X.env = pure true)
    (hi : JIb X W env tg iter mi) (ok : BlkOk X.N X.env.scope scope own) (hg : ∀ (s : Shared) (H : Hp) (C : Addr) (cl : List (Str × Addr)) (fp : List Addr), PG (X.blk s H scope (compEnvC scope cl C X.env) fp) tg g) (hgo : GOk X.K g slots tf ef) (hsl : ∀ i ∈ slots, i ∈ own.map (·.2))
    (ht : ∀ (s : Shared) (H : Hp) (C : Addr) (cl : List (Str × Addr)) (fp : List Addr) (x : β), PTs (X.blk s H scope (compEnvC scope cl C X.env) fp) ifs (tX X.K (fun _ _ _ _ => False) (ef (wipeE env (own.map (·.2))) x) RT (mt x)))
    (he : ∀ (s : Shared) (H : Hp) (C : Addr) (cl : List (Str × Addr)) (fp : List Addr) (x : β), JE (X.blk s H scope (compEnvC scope cl C X.env) fp) (fun _ _ _ _ => False) (ef (wipeE env (own.map (·.2))) x) elt (me x))
    (hr : ∀ d, JC X W xe (env.set i (some (.val d))) rest U (k d) dec)
    (hs : ∀ x, foldedSetIterable iter X.env x = pure x := by intro _; rfl) (hy : X.N[i]? = some x := by rfl) (hyl : X.env.scope.names.lookup x = some .local := by rfl) (hl : i < env.length := by decide) :
    JC X W xe env (.Assign [.Name x pos'] (.ListComp elt [⟨tg, iter, ifs, 0⟩] scope cpos) pos :: rest) U ((mi >>= comp fun x => tf x >>= fun a => mt a >>= fun b => if b then me a >>= fun y => pure (some y) else pure none) >>= k) dec :=
  jc_setOwnLc i w hc hN hsw hi ok hg hgo hsl ht he (fun d => jc_freeze i (List.getElem?_set_self hl) (by rw [List.set_set]; exact hr d)) hs hy hyl
end
/-! ### several names -/
inductive Kd where
  | v | o
def cellOf : Kd → D → C
  | .v, d => .val d
  | .o, d => .own d
def RK (K : PySem.W.Frag) (Hp0 : Hp) (kd : Kd) (g : Gh) (H : Hp) (v : V) (d : D) : Prop := match kd with
  | .v => Rep K g.fi g.hb v d
  | .o => ∃ a, v = .ref a ∧ Hp0 a = none ∧ Own K g.fi g.hb H a d ∧ g.hb a = none ∧ a ∉ g.fi
theorem RK.step {K : PySem.W.Frag} {Hp0 H H' : Hp} {kd : Kd} {g g' : Gh} {v : V} {d : D} (r : RK K Hp0 kd g H v d) (st : Step H g H' g') : RK K Hp0 kd g' H' v d := by
  cases kd with
  | v => exact Rep.mono st.hb st.fi r
  | o =>
    obtain ⟨a, e, h0, o, nb, nf⟩ := r
    obtain ⟨u, hu⟩ := o.there
    have hn : H a ≠ none := by rw [hu]; simp
    exact ⟨a, e, h0, o.mono st.hb st.fi fun o' h' => st.frame _ _ h' nf, st.newb a nb hn, fun z => nf (st.newf a z hn)⟩
/-- e's value, to be kept as kd -/
def tK (K : PySem.W.Frag) (W : WX) (env : EnvD) (kd : Kd) (m : M D) : TE := fun σ H Q => ∃ g sto, SR K H g sto ∧ EnvOk K H g σ env ∧ (m sto).post (fun d s => ∀ v H' g', Step H g H' g' → SR K H' g' s → RK K H kd g' H' v d → Q v H') (exP K H g fun c dx H' => W c dx σ H')
abbrev JK (X : Cx) (W : WX) (env : EnvD) (kd : Kd) (e : Expr) (m : M D) : Prop := PE X e (tK X.K W env kd m)
theorem JE.k {m : M D} (h : JE X W env e m) : JK X W env .v e m := PE.imp h fun σ H Q ⟨g, s, sr, eo, q⟩ => ⟨g, s, sr, eo, q⟩
theorem JF.k {m : M D} (h : JF X W env e m) : JK X W env .o e m := PE.imp h fun σ H Q ⟨g, s, sr, eo, q⟩ => ⟨g, s, sr, eo, Res.post.imp q (fun d s1 x a H' g' st sr' hn o nb nf => x (.ref a) H' g' st sr' ⟨a, rfl, hn, o, nb, nf⟩) fun _ _ _ x => x⟩
theorem EnvOk.setK {K : PySem.W.Frag} {H Hp0 : Hp} {g : Gh} {σ : SS} {env : EnvD} {kd : Kd} {v : V} {d : D} (eo : EnvOk K H g σ env) (r : RK K Hp0 kd g H v d) (un : ∀ (j : Nat) (d' : D) (a : Addr), env[j]? = some (some (.own d')) → σ[j]? = some (some (.ref a)) → Hp0 a ≠ none) (i : Nat) : EnvOk K H g (σ.set i (some v)) (env.set i (some (cellOf kd d))) := by
  cases kd with
  | v => exact eo.set r i
  | o =>
    obtain ⟨a, rfl, h0, o, nb, nf⟩ := r
    exact eo.setOwn o nb nf i fun j d' h1 h2 => absurd h0 (un j d' a h1 h2)
theorem OwnFr.setK {H0 Hp0 H : Hp} {K : PySem.W.Frag} {g : Gh} {σ : SS} {env : EnvD} {kd : Kd} {v : V} {d : D} (fr : OwnFr H0 σ env) (r : RK K Hp0 kd g H v d) (h : ∀ a, Hp0 a = none → H0 a = none) (i : Nat) : OwnFr H0 (σ.set i (some v)) (env.set i (some (cellOf kd d))) := by
  cases kd with
  | v => exact fr.set i v d
  | o =>
    obtain ⟨a, rfl, h0, _⟩ := r
    exact fr.setOwn i d (h a h0)
/-- x, y = a, b -/
theorem jc_par (i j : Nat) {x y : Str} {a b : Expr} {px py pt : Pos} {kt k2 : Nat} {pt2 : Pos} {ka kb : Kd} {ma mb : M D} {k : D → D → M α} (w : Weak xe env) (hc : X.calm = true) (hN : X.N.Nodup) (ha : JK X W env ka a ma) (hb : JK X W env kb b mb) (hr : ∀ d e, JC X W xe ((env.set i (some (cellOf ka d))).set j (some (cellOf kb e))) rest U (k d e) dec)
    (hw : swappedStores [.Tuple [.Name x px, .Name y py] kt pt] (.Tuple [a, b] k2 pt2) X.env = pure (some [x, y])) (hij : i ≠ j := by decide)
    (hi : X.N[i]? = some x := by rfl) (hj : X.N[j]? = some y := by rfl) (hx : X.env.scope.names.lookup x = some .local := by rfl) (hy : X.env.scope.names.lookup y = some .local := by rfl)
    (hs : swapsWithSole [.Tuple [.Name x px, .Name y py] kt pt] (.Tuple [a, b] k2 pt2) pos.line X.env = pure false := by rfl)
    (hst : starEach [a, b] X.env = (false, eval a X.env) :: starEach [b] X.env := by rfl) (hst2 : starEach [b] X.env = (false, eval b X.env) :: starEach [] X.env := by rfl) :
    JC X W xe env (.Assign [.Tuple [.Name x px, .Name y py] kt pt] (.Tuple [a, b] k2 pt2) pos :: rest) U (ma >>= fun d => mb >>= fun e => k d e) dec :=
  PSs.step (ps_par hc hN hi hj hij hx hy (pa_cons ha (pa_cons hb pa_nil hst2) hst) hw hs) (nexts_run (δ := D × D) (f := fun p => (env.set i (some (cellOf ka p.1))).set j (some (cellOf kb p.2))) (k := fun p => k p.1 p.2) fun p => hr p.1 p.2) fun D1 σ H ⟨Dn, e1, H0, g0, g, s, st0, sr, eo, fr, q⟩ => by
    refine ⟨g, s, sr, eo, Res.post.imp (post_bind.mp q) (fun d s1 q1 v H1 g1 st1 sr1 r1 => ?_) fun c fs s' x => exS.toP (s := s) x st0 eo fr w⟩
    have eo1 := eo.step st1
    refine ⟨g1, s1, sr1, eo1, Res.post.imp (post_bind.mp q1) (fun d2 s2 q2 v2 H2 g2 st2 sr2 r2 => ?_) fun c fs s' x => exS.toP (s := s1) x (st0.trans st1) eo1 fr w⟩
    have ownT : ∀ {H : Hp} {g : Gh}, EnvOk X.K H g σ env → ∀ (j : Nat) (d' : D) (a : Addr), env[j]? = some (some (.own d')) → σ[j]? = some (some (.ref a)) → H a ≠ none := fun eo j d' a h1 h2 z => by
      obtain ⟨b, h3, o', _⟩ := eo.own j d' h1
      rw [h2] at h3
      cases h3
      obtain ⟨u, hu⟩ := o'.there
      rw [z] at hu; cases hu
    have eA := (eo1.step st2).setK (r1.step st2) (ownT eo) i
    have fA := fr.setK (r1.step st2) (fun a h => st0.live a h) i
    refine ⟨v, v2, rfl, (d, d2), Dn, e1, H0, g0, g2, s2, (st0.trans st1).trans st2, sr2, eA.setK r2 (fun l d' a h1 h2 z => ?_) j, fA.setK r2 (fun a h => st0.live a (st1.live a h)) j, q2⟩
    by_cases el : i = l
    · subst el
      have hl : i < env.length := by
        by_cases hl : i < env.length
        · exact hl
        · rw [List.getElem?_eq_none (by simpa using hl)] at h1; cases h1
      rw [List.getElem?_set_self hl] at h1
      rw [List.getElem?_set_self (by rw [← eo.len]; exact hl)] at h2
      cases ka with
      | v => cases h1
      | o =>
        cases h2
        obtain ⟨a', e', h0, o, _⟩ := r1
        cases e'
        obtain ⟨u, hu⟩ := o.there
        rw [z] at hu; cases hu
    · rw [List.getElem?_set_ne el] at h1 h2
      exact ownT eo1 l d' a h1 h2 z
/-- a target of several names, from a tuple -/
theorem jc_tup {β : Type} {tg : Expr} {g : TG} {slots : List Nat} {tf : D → M β} {ef : EnvD → β → EnvD} {m : M D} {k : β → M α} (w : Weak xe env) (h : JE X W env e m) (hg : PG X tg g) (hgo : GOk X.K g slots tf ef) (hr : ∀ b, JC X W xe (ef env b) rest U (k b) dec)
    (hs : swapsWithSole [tg] e pos.line X.env = pure false := by rfl) (hw : swappedStores [tg] e X.env = pure none := by rfl) (h1 : (assignEach [tg] X.env).map (·.2) = [assign tg X.env] := by rfl) :
    JC X W xe env (.Assign [tg] e pos :: rest) U (m >>= fun d => tf d >>= fun b => k b) dec :=
  PSs.step (ps_asg h hg hs hw h1) (nexts_run (f := fun b => ef env b) (k := k) hr) fun D1 σ H ⟨Dn, e1, H0, g0, gg, s, st0, sr, eo, fr, q⟩ => tS.expr (Rl := RS X.K) w st0 sr eo fr q fun d s1 v H1 g1 st sr1 eo1 rv q1 => by
    have q2 := post_bind.mp q1
    cases etf : tf d s1 with
    | ex c d' s3 => exact absurd etf (hgo.nx _ s1 c d' s3)
    | bad => rw [etf] at q2; exact q2.elim
    | ok b s3 =>
      rw [etf] at q2
      obtain ⟨rfl, go⟩ := hgo.go env σ H1 g1 s1 s3 v d b (nexts X W xe U (fun b => ef env b) k dec D1) sr1 eo1 rv etf
      refine go fun σ' eo' _ same => ⟨b, Dn, e1, H0, g0, g1, s3, st0.trans st, sr1, eo', fun j d a h1 h2 => ?_, q2⟩
      obtain ⟨nj, h3⟩ := hgo.ow _ _ j d h1
      rw [same j nj] at h2
      exact fr j d a h3 h2
end
end DL

set_option maxRecDepth 100000
set_option autoImplicit false
/-! DL12: defs, their promises, calls. -/
namespace DL
open PySem PySem.Spec PyProof.Rows L2
def spD (K : PySem.W.Frag) (n : Nat) (f : List D → M D) : Sp := fun vs H Q E => ∃ g s ds, ds.length = n ∧ SR K H g s ∧ RepL K g.fi g.hb vs ds ∧ Mp K (RS K) (f ds) H g s Q E
def startE (N : List Str) (ds : List D) : EnvD := ds.map (fun d => some (.val d)) ++ List.replicate (N.length - ds.length) none
/-- a def: what it promises -/
structure DF (P : Program) (w : World) (K : PySem.W.Frag) (mg : Str → Option Value) (base : Heap) (k : Nat) (x : Str) (st : Stmt) (ps : List Str) (m : List D → M D) : Prop where
  ar : ∀ ds s, ds.length ≠ ps.length → m ds s = .bad
  ex : ∃ f fd, FnOk P w K mg base (L2.CX P w) k f fd ps (spD K ps.length m) ∧ mg x = some (.ref f) ∧ FunD K x x (defArgs st) (defBody st) (defScope st) [] [] f fd ∧ Binds K fd ps []
theorem DF.mono {P : Program} {w : World} {K : PySem.W.Frag} {mg : Str → Option Value} {base : Heap} {k k' : Nat} {x : Str} {st : Stmt} {ps : List Str} {m : List D → M D} (F : DF P w K mg base k x st ps m) (h : k ≤ k') : DF P w K mg base k' x st ps m :=
  ⟨F.ar, let ⟨f, fd, a, b⟩ := F.ex; ⟨f, fd, a.mono h, b⟩⟩
theorem startE_get {N : List Str} {ds : List D} {i : Nat} {c : C} (h : (startE N ds)[i]? = some (some c)) : ∃ d, ds[i]? = some d ∧ c = .val d := by
  unfold startE at h
  by_cases hi : i < ds.length
  · rw [List.getElem?_append_left (by simpa using hi), List.getElem?_map, List.getElem?_eq_getElem hi] at h
    cases h
    exact ⟨_, List.getElem?_eq_getElem hi, rfl⟩
  · rw [List.getElem?_append_right (by simpa using hi), List.getElem?_replicate] at h
    split at h <;> cases h
theorem EnvOk.start {K : PySem.W.Frag} {H : Hp} {g : Gh} {N : List Str} {vs : List V} {ds : List D} (r : RepL K g.fi g.hb vs ds) : EnvOk K H g (start N vs) (startE N ds) := by
  refine ⟨by simp [startE, L2.start, r.length], fun i d h => ?_, fun i d h => ?_, fun i j d e a h => ?_, fun i a dx fs h => ?_⟩
  · obtain ⟨d', h1, e⟩ := startE_get h
    cases e
    obtain ⟨v, h2, rv⟩ := r.get h1
    refine ⟨v, ?_, rv⟩
    unfold L2.start
    rw [List.getElem?_append_left (by rw [List.length_map]; exact (List.getElem?_eq_some_iff.mp h2).1), List.getElem?_map, h2]; rfl
  · obtain ⟨d', _, e⟩ := startE_get h; cases e
  · obtain ⟨d', _, e⟩ := startE_get h; cases e
  · obtain ⟨d', _, e⟩ := startE_get h; cases e
/-- a body keeps the promise -/
theorem FnOk.ofJC {P : Program} {w : World} {K : PySem.W.Frag} {mg : Str → Option Value} {base : Heap} {k : Nat} {x : Str} {st : Stmt} {N ps : List Str} {m : List D → M D} {f : Addr} {fd : FuncData} (F : FunD K x x (defArgs st) (defBody st) (defScope st) [] [] f fd) (S : FnScope N ps (defScope st))
    (body : ∀ (cdv : Value) (A : Around) (outer : List Env) (s : Shared) (H : Hp) (E : XK) (ds : List D), ds.length = ps.length → Room k (A.deeper (envOfC x (defScope st) s.heap.objs.size f cdv)) →
      JC (cxOf (L2.CX P w) P w K mg base N x (defScope st) f cdv A outer s H E) (fun c d _ H' => E c d H') (List.replicate N.length none) (startE N ds) (defBody st) U0 (m ds) .fin) : FnOk P w K mg base (L2.CX P w) (k + 1) f fd ps (spD K ps.length m) := by
  refine F.ok S (fun vs H Q E ⟨g, s, ds, hl, _, r, _⟩ => r.length.trans hl) fun cdv A outer s H vs Q E hr ⟨g, st', ds, hl, sr, r, q⟩ => ?_
  refine ⟨_, body cdv A outer s H E ds hl hr, ⟨_, ⟨rfl, rfl, rfl, fun _ _ h => h⟩, H, g, g, st', Step.rfl, sr, EnvOk.start r, fun i d a h => ?_, Res.post.imp q (fun d s' x => ?_) fun c fs s' x => ?_⟩⟩
  · obtain ⟨_, _, e⟩ := startE_get h; cases e
  · exact ⟨fun v H1 g1 st1 sr1 r1 => x v H1 g1 st1 sr1 r1, fun e σ H1 g1 st1 sr1 => x .non H1 g1 st1 sr1 (by rw [e]; exact .non)⟩
  · exact fun σ' H' g' dx st1 sr1 _ _ xr => x H' g' dx st1 sr1 xr
theorem DF.of {P : Program} {w : World} {K : PySem.W.Frag} {mg : Str → Option Value} {base : Heap} {k : Nat} {x : Str} {st : Stmt} {N ps : List Str} {m : List D → M D} {f : Addr} {fd : FuncData} (F : FunD K x x (defArgs st) (defBody st) (defScope st) [] [] f fd) (hx : mg x = some (.ref f)) (S : FnScope N ps (defScope st))
    (hb : ∀ (kV doc pm : Value) (an : Option Addr) (cdv ct : Value) (us : List Value), us.length = ps.length → bindArgs (PySem.W.fnOf x x (defArgs st) (defBody st) (defScope st) .none kV doc pm an cdv ct) ⟨us, []⟩ = pure (ps.zip us))
    (ar : ∀ ds s, ds.length ≠ ps.length → m ds s = .bad)
    (body : ∀ (cdv : Value) (A : Around) (outer : List Env) (s : Shared) (H : Hp) (E : XK) (ds : List D), ds.length = ps.length → Room k (A.deeper (envOfC x (defScope st) s.heap.objs.size f cdv)) →
      JC (cxOf (L2.CX P w) P w K mg base N x (defScope st) f cdv A outer s H E) (fun c d _ H' => E c d H') (List.replicate N.length none) (startE N ds) (defBody st) U0 (m ds) .fin) : DF P w K mg base (k + 1) x st ps m :=
  ⟨ar, f, fd, FnOk.ofJC F S body, hx, F, F.bindsN hb⟩
section
variable {X : Cx} {W : WX} {env : EnvD}
theorem RSL.rep {K : PySem.W.Frag} {g : Gh} {H : Hp} {vs : List V} {ds : List D} (r : RSL K g H vs ds) : RepL K g.fi g.hb vs ds := r
/-- f(e, ..) -/
theorem je_call {k : Nat} {st : Stmt} {ps : List Str} {f : List D → M D} {x : Str} {p pos : Pos} {e : Expr} {es : List Expr} {m : M (List D)} (F : DF X.prog X.w X.K X.mg X.base k x st ps f) (hr : Room k X.A) (tk : Takes X W) (hg : Gl X x) (ha : JA X W env (e :: es) m) (hdb : (x == ("__debug__" : Str)) = false := by decide)
    (he : starEach (e :: es) X.env = (false, eval e X.env) :: starEach es X.env := by rfl) (hpl : (backTo pos (starEach es X.env)).any (·.1) = false := by rfl) : JE X W env (.Call (.Name x p) (e :: es) [] pos) (m >>= f) := by
  obtain ⟨fa, fd, G, gx, FD, b⟩ := F.ex
  refine PE.imp (pe_callS (E := WE W) G hr hg gx FD.kp b (fun σ => passAt tk σ) ha hdb he hpl) fun σ H Q ⟨g, s, sr, eo, q⟩ => tX.bind sr eo q fun ds s1 vs H1 g1 st1 sr1 eo1 r q1 => ?_
  by_cases hl : ds.length = ps.length
  · exact ⟨g1, s1, ds, hl, sr1, r, q1⟩
  · have q2 : (f ds s1).post _ _ := q1
    rw [F.ar ds s1 hl] at q2
    exact q2.elim
/-! keywords -/
abbrev JKw (X : Cx) (W : WX) (env : EnvD) (kws : List Keyword) (m : M (List D)) : Prop := PK X kws (tX X.K W env (RSL X.K) m)
theorem PK.imp {kws : List Keyword} {t t' : TA} (h : PK X kws t) (i : ∀ σ H Q, t' σ H Q → t σ H Q) : PK X kws t' := ⟨fun pos pins s σ H Q I q => h.run pos pins s σ H Q I (i σ H Q q)⟩
theorem jk_nil : JKw X W env [] (pure []) := PK.imp pk_nil fun σ H Q ⟨g, s, sr, eo, q⟩ => Mp.pure q sr .nil
theorem jk_cons {e : Expr} {nm : Option Str} {kpos : Pos} {kws : List Keyword} {m : M D} {ms : M (List D)} (h : JE X W env e m) (hs : JKw X W env kws ms) : JKw X W env (⟨nm, e, kpos⟩ :: kws) (m >>= fun x => ms >>= fun xs => pure (x :: xs)) :=
  PK.imp (pk_cons h hs) fun σ H Q ⟨g, s, sr, eo, q⟩ => tX.bind sr eo q fun d s1 v H1 g1 st sr1 eo1 r q1 => tX.bind sr1 eo1 q1 fun ds s2 vs H2 g2 st2 sr2 eo2 rs q2 => Mp.pure q2 sr2 (.cons (r.mono st2.hb st2.fi) rs)
/-- how keywords are put in order: alike for values of the model and of the layer -/
structure Kw (n : Nat) (g : {α : Type} → List α → List α → List α) : Prop where
  vals : ∀ {vs : List V} {us : List Value} {zs : List V} {ws : List Value}, Vals vs us → Vals zs ws → Vals (g vs zs) (g us ws)
  rep : ∀ {K : PySem.W.Frag} {fi : List Addr} {H : Hp} {vs zs : List V} {ds es : List D}, RepL K fi H vs ds → RepL K fi H zs es → RepL K fi H (g vs zs) (g ds es)
/-- positional ones first, then the keywords in the order of the parameters -/
theorem kw_app {n : Nat} : Kw n (fun xs ys => xs ++ ys) := ⟨fun a b => a.append b, fun a b => a.app b⟩
def kwRev {α : Type} (xs ys : List α) : List α := xs ++ ys.reverse
theorem vals_rev : ∀ {vs : List V} {us : List Value}, Vals vs us → Vals vs.reverse us.reverse
  | _, _, .nil => .nil
  | _, _, .cons h r => by simp only [List.reverse_cons]; exact (vals_rev r).append (.cons h .nil)
theorem kw_rev {n : Nat} : Kw n (fun xs ys => kwRev xs ys) := ⟨fun a b => a.append (vals_rev b), fun a b => a.app b.rev⟩
theorem DF.kb {P : Program} {w : World} {K : PySem.W.Frag} {mg : Str → Option Value} {base : Heap} {k : Nat} {x : Str} {st : Stmt} {ps ks : List Str} {fd : FuncData} {fa : Addr} {gg : {α : Type} → List α → List α → List α} (FD : FunD K x x (defArgs st) (defBody st) (defScope st) [] [] fa fd) (kw : Kw ps.length gg)
    (h : ∀ (kV doc pm : Value) (an : Option Addr) (cdv ct : Value) (us ws : List Value), us.length + ks.length = ps.length → ws.length = ks.length → bindArgs (PySem.W.fnOf x x (defArgs st) (defBody st) (defScope st) .none kV doc pm an cdv ct) ⟨us, ks.zip ws⟩ = pure (ps.zip (gg us ws))) :
    KBn K fd ps (ps.length - ks.length) ks (fun us ws => gg us ws) (fun us ws => gg us ws) ∨ ps.length < ks.length := by
  by_cases hk : ps.length < ks.length
  · exact .inr hk
  · refine .inl ⟨fun s us ws _ l1 l2 => ?_, fun a b => kw.vals a b⟩
    obtain ⟨oc, od, dV, kV, doc, pm, an, cdv, ct, osl, rfl, lk, hcd, hD, hK⟩ := FD.ex
    rcases hD with ⟨_, rfl⟩ | ⟨e, _⟩
    · exact BindsTo.of_eq (h kV doc pm an cdv ct us ws (by omega) l2)
    · exact absurd rfl e
/-- nothing by position -/
def tCallN0 (m : Nat) (sp : Sp) (gV : List V → List V → List V) (E : SS → XK) (tk : TA) : TE := fun σ H Q => tk σ H fun zs H2 => zs.length = m ∧ sp (gV [] zs) H2 Q (E σ)
theorem pe_callN0 {CX : CXT} {k : Nat} {f : Addr} {fd : FuncData} {ps ks : List Str} {sp : Sp} {E : SS → XK} {x : Str} {p pos : Pos} {kws : List Keyword} {tk : TA} {g : List Value → List Value → List Value} {gV : List V → List V → List V} (F : FnOk X.prog X.w X.K X.mg X.base CX k f fd ps sp) (hr : Room k X.A) (hg : Gl X x) (hm : X.mg x = some (.ref f)) (hk : PySem.W.keepIn X.K (.ref f) = true) (hb : KBn X.K fd ps 0 ks g gV) (hx : ∀ σ, PassesAt CX X σ (E σ))
    (hkw : PK X kws tk) (hall : (backToKw pos (keywordEach kws X.env)).all (·.1.isSome) = true := by rfl) (hks : (backToKw pos (keywordEach kws X.env)).filterMap (·.1) = ks := by rfl)
    (hdb : (x == ("__debug__" : Str)) = false := by decide)
    (hpl : ((backTo pos (starEach [] X.env)).any (·.1) || (backToKw pos (keywordEach kws X.env)).any (·.1.isNone)) = false := by rfl) :
    PE X (.Call (.Name x p) [] kws pos) (tCallN0 ks.length sp gV E tk) := by
  refine ⟨fun pins s σ H Q I h => ?_⟩
  refine wpAny_Call_Name_kw (ld_glob I hg hm ?_ hdb)
  refine PySem.W.callWith_KW0 (h₀ := X.base) I.ok.mod.kin hk hall (thn (hkw.run pos pins s σ H _ I h) fun ws s2 ⟨zs, H2, I2, rz, l2, q2⟩ => ⟨I2.kIn, ?_⟩) hpl
  rw [hks]
  have r2 := hb.rel .nil rz
  refine wpAny_call (codeAny_mono (F.run X.A X.stack s2 H2 ⟨[], ks.zip ws⟩ (g [] ws) (gV [] zs) Q (E σ) hr I2.env0 (hb.to s2 [] ws I2.kIn rfl (rz.length.symm.trans l2)) r2 q2) fun r s' hq => ?_)
  cases r with
  | error e => exact hx σ pins H2 s2 e s' I2 hq
  | ok fl =>
    cases fl with
    | ret u => exact I2.after hq
    | next => exact False.elim hq
    | brk => exact False.elim hq
    | cont => exact False.elim hq
/-- f(k = e, ..) -/
theorem je_callK {k : Nat} {st : Stmt} {ps ks : List Str} {f : List D → M D} {gg : {α : Type} → List α → List α → List α} {x : Str} {p pos : Pos} {kws : List Keyword} {m : M (List D)} (F : DF X.prog X.w X.K X.mg X.base k x st ps f) (hr : Room k X.A) (tk : Takes X W) (hg : Gl X x) (hl : ks.length = ps.length) (kw : Kw ps.length gg)
    (hb : ∀ (kV doc pm : Value) (an : Option Addr) (cdv ct : Value) (us ws : List Value), us.length + ks.length = ps.length → ws.length = ks.length → bindArgs (PySem.W.fnOf x x (defArgs st) (defBody st) (defScope st) .none kV doc pm an cdv ct) ⟨us, ks.zip ws⟩ = pure (ps.zip (gg us ws)))
    (hkw : JKw X W env kws m) (hzl : kws.length = ks.length) (hall : (backToKw pos (keywordEach kws X.env)).all (·.1.isSome) = true := by rfl) (hks : (backToKw pos (keywordEach kws X.env)).filterMap (·.1) = ks := by rfl)
    (hdb : (x == ("__debug__" : Str)) = false := by decide)
    (hpl : ((backTo pos (starEach [] X.env)).any (·.1) || (backToKw pos (keywordEach kws X.env)).any (·.1.isNone)) = false := by rfl) :
    JE X W env (.Call (.Name x p) [] kws pos) (m >>= fun zs => if zs.length = ks.length then f (gg [] zs) else M.bad) := by
  obtain ⟨fa, fd, G, gx, FD, b⟩ := F.ex
  rcases DF.kb (k := k) (P := X.prog) (w := X.w) (mg := X.mg) (base := X.base) FD kw hb with kb | kb
  · have e0 : ps.length - ks.length = 0 := by omega
    rw [e0] at kb
    refine PE.imp (pe_callN0 (E := WE W) G hr hg gx FD.kp kb (fun σ => passAt tk σ) hkw hall hks hdb hpl) fun σ H Q ⟨g, s, sr, eo, q⟩ => tX.bind sr eo q fun ds s1 vs H1 g1 st1 sr1 eo1 r q1 => ?_
    by_cases hl2 : ds.length = ks.length
    · rw [if_pos hl2] at q1
      refine ⟨r.length.trans hl2, ?_⟩
      by_cases hl3 : (gg [] ds).length = ps.length
      · exact ⟨g1, s1, gg [] ds, hl3, sr1, kw.rep .nil r, q1⟩
      · have q2 : (f (gg [] ds) s1).post _ _ := q1
        rw [F.ar _ s1 hl3] at q2
        exact q2.elim
    · rw [if_neg hl2] at q1
      exact q1.elim
  · omega
end
end DL

set_option maxRecDepth 100000
/-! DL13: own exceptions with __init__(self, f): self.f = f; raise; try with several clauses. -/
namespace DL
open PySem PySem.W PySem.Calls PyProof.Rows PySem.HandSPX
def iA (fld : PySem.Str) (p1 p2 : Pos) : Arguments := { posonlyargs := [], args := [{ arg := "self", annotation := none, pos := p1 }, { arg := fld, annotation := none, pos := p2 }], vararg := none, kwonlyargs := [], kw_defaults := [], kwarg := none, defaults := [] }
def iB (fld : PySem.Str) (q1 q2 q3 q4 : Pos) : List Stmt := [.Assign [.Attribute (.Name "self" q1) fld q2] (.Name fld q3) q4]
def iS (fld : PySem.Str) : Scope := { kind := .function, names := [(PySem.Str.ofString "self", .local), (fld, .local)], isGenerator := false, isCoroutine := false, more := [] }
/-- what the written part says of the class x, at C, and of its __init__, at fI -/
structure ExT (K : Frag) (mg : PySem.Str → Option Value) (x fld : PySem.Str) (C fI : Addr) : Prop where
  gC : mg x = some (.ref C)
  cls : ∃ nm q N bs bm sn sub ab col dd k0 k1 k2 k3 k5, K.lookup C = some (excClassObj nm q C N bs bm true sn sub ab col dd k0 k1 k2 k3 k5 "ValueError.__new__") ∧ refsVE bm = true
  sa : findIn K (.ref C) "__setattr__" = some (some (.builtin "object.__setattr__"))
  ga : findIn K (.ref C) "__getattribute__" = some (some (.builtin "BaseException.__getattribute__"))
  gg : findIn K (.ref C) "__getattr__" = some none
  noN : findIn K (.ref C) fld = some none
  iC : findIn K (.ref C) "__init__" = some (some (.ref fI))
  tC : typeIn K (.ref fI) = some (.type "function")
  kC : keepIn K (.ref C) = true
  exC : subIn K (.ref C) (.type "BaseException") = some true
  tyC : typeIn K (.ref C) = some (.type "type")
  hdC : hasDictIn K C = true
  ns : (fld == ("self" : PySem.Str)) = false
  nd : (fld == ("__debug__" : PySem.Str)) = false
  bnd : ∀ (q : PySem.Str) (kV doc pm : Value) (an : Option Addr) (cdv ct : Value) (p1 p2 q1 q2 q3 q4 : Pos) (x v : Value), bindArgs (fnOf "__init__" q (iA fld p1 p2) (iB fld q1 q2 q3 q4) (iS fld) .none kV doc pm an cdv ct) ⟨[x, v], []⟩ = pure [(PySem.Str.ofString "self", x), (fld, v)]
  fn : ∃ (q : PySem.Str) (oc : Value) (od : Option Addr) (kV doc pm : Value) (an : Option Addr) (cdv ct : Value) (osl : Array (Option Value)) (p1 p2 q1 q2 q3 q4 : Pos),
    K.lookup fI = some ⟨oc, od, .func (fnOf "__init__" q (iA fld p1 p2) (iB fld q1 q2 q3 q4) (iS fld) .none kV doc pm an cdv ct), osl⟩ ∧ codeIn K cdv q = true
theorem one_size (v : Value) : [v].length ≤ sizeLine := by
  rw [sizeLine_eq]
  exact (by decide : 1 ≤ 16777216)
theorem ldC {M : Model} {s : Shared} {name : PySem.Str} {scope : Scope} {L a : Addr} {cd : Value} {m : PySem.Str → Option Value} {x : PySem.Str} {pos : Pos} {v : Value} {Q : Value → Shared → Prop} {A : Around} {E : Value → Shared → Prop} (hn : s.heap.Ns L m) (hv : m x = some v) (h : Q v s)
    (hk : scope.kind = .function := by rfl) (hl : (envOfC name scope L a cd).kindOf x = some .local := by rfl) (hd : (x == ("__debug__" : PySem.Str)) = false := by decide) :
    wpAny M A (eval (.Name x pos) (envOfC name scope L a cd)) Q E s := wpAny_Name (wpAny_loadName_local hk hl hn hv h) hd
structure InitEnd (h h' : Heap) (x C dx t1 : Addr) (fld : PySem.Str) (v : Value) : Prop where
  keep : ∀ b o, b ≠ x → h.get? b = some o → h'.get? b = some o
  obj : h'.get? x = some { cls := .ref C, dict := some dx, data := .fields #[.ref t1, .none, .none, .none, .bool false, .none] }
  dbig : h.objs.size ≤ dx
  dne : dx ≠ x
  ns : h'.Ns1 dx (fun y => if y = fld then some v else none)
structure OwnMade (h h' : Heap) (e C d : Addr) (fld : PySem.Str) (v : Value) : Prop where
  keep : ∀ b o, h.get? b = some o → h'.get? b = some o
  new : h.objs.size ≤ e
  obj : ∃ oe vs, h'.get? e = some oe ∧ oe.cls = .ref C ∧ oe.dict = some d ∧ oe.data = .fields vs ∧ vs[1]? = some .none
  dbig : h.objs.size ≤ d
  dne : d ≠ e
  ns : h'.Ns1 d (fun y => if y = fld then some v else none)
theorem kind_fld {q fld : PySem.Str} {L a : Addr} {cd : Value} (h : (fld == ("self" : PySem.Str)) = false) : (envOfC q (iS fld) L a cd).kindOf fld = some .local := by
  show List.lookup fld [(PySem.Str.ofString "self", NameKind.local), (fld, .local)] = some .local
  have h' : (fld == PySem.Str.ofString "self") = false := h
  simp [List.lookup, h']
theorem bind_fld {q fld : PySem.Str} {L a : Addr} {cd u v : Value} (h : (fld == ("self" : PySem.Str)) = false) : bindL (envOfC q (iS fld) L a cd).kindOf [("self", u), (fld, v)] (fun _ => none) fld = some v := by
  unfold bindL bindL bindL
  have hs : fld ≠ ("self" : PySem.Str) := by simpa using h
  rw [if_pos (kind_fld h)]
  by_cases c : (envOfC q (iS fld) L a cd).kindOf "self" = some .local
  · simp [c]
  · simp [c]
theorem bind_self {q fld : PySem.Str} {L a : Addr} {cd u v : Value} (h : (fld == ("self" : PySem.Str)) = false) : bindL (envOfC q (iS fld) L a cd).kindOf [("self", u), (fld, v)] (fun _ => none) "self" = some u := by
  have hs : ¬ ("self" : PySem.Str) = fld := by have : fld ≠ ("self" : PySem.Str) := by simpa using h
                                               exact fun z => this z.symm
  have c : (envOfC q (iS fld) L a cd).kindOf "self" = some .local := rfl
  unfold bindL bindL bindL
  rw [if_pos (kind_fld h), if_pos c]
  simp [hs]
section
variable {prog : Program} {w : World} {A : Around} {E : Value → Shared → Prop} {R : Result → Shared → Prop} {s : Shared} {K : Frag} {mg : PySem.Str → Option Value} {cx fld : PySem.Str} {C fI : Addr}
theorem ex_init (T : ExT K mg cx fld C fI) {x t0 : Addr} {v : Value} (X : K.In s.heap) (hlim : s.heap.NoLimit) (hx : s.heap.get? x = some (excO C t0)) (hroom : A.depth < recursionLimit)
    (hq : ∀ h' tk dx, InitEnd s.heap h' x C dx t0 fld v → R (.ok (.ret .none)) { s with heap := h', toks := tk }) :
    codeAny (model prog w) A (.call (.ref fI) ⟨[.ref x, v], []⟩) R s := by
  obtain ⟨q9, oc, od, kV, doc, pm, an, cdv, ct, osl, p1, p2, q1, q2, q3, q4, ho, hcd⟩ := T.fn
  obtain ⟨nm, q, N, bs, bm, sn, sub, ab, col, dd, k0, k1, k2, k3, k5, hC, hbm⟩ := T.cls
  have hcl : clsIn K C = some { name := nm, bases := bs, mro := .ref C :: bm, ns := N, qualname := q, hasDict := true, slotNames := sn, subclasses := sub, abstract := ab, collection := col, hasDel := false } := by unfold clsIn; rw [hC] <;> rfl
  refine Att.call_fn (binds := [("self", .ref x), (fld, v)]) X hlim ho hcd hroom (BindsTo.of_eq (T.bnd _ _ _ _ _ _ _ _ _ _ _ _ _ _ _)) (by have h' : (fld == PySem.Str.ofString "self") = false := T.ns; simp [iS, List.lookup, h']) (fun s₁ IC => ?_) rfl rfl rfl
  obtain ⟨h₁, tk₁, rfl⟩ := IC.toInCall.same
  have k : ∀ b o, s.heap.get? b = some o → h₁.get? b = some o := IC.toInCall.keep
  have hn := IC.toInCall.ns
  have hxL : s.heap.objs.size ≠ x := Nat.ne_of_gt (Heap.lt_size hx)
  have X₁ : K.In h₁ := X.keeps k
  have hx₁ := k _ _ hx
  -- self.f = f
  show wpAny _ _ (execs _ _) _ _ _
  refine wpAny_execs_cons (plainObj_wpAny_Assign_Attribute ?_)
  refine ldC (v := v) hn (bind_fld T.ns) (ldC (v := .ref x) hn (bind_self T.ns) ?_) rfl (kind_fld T.ns) T.nd
  refine set_plain X₁ (ox := excO C t0) (od := none) ⟨hx₁, rfl, rfl, trivial⟩ T.sa ?_
  refine exc_osa X₁ hx₁ hcl (show refsVE (.ref C :: bm) = true from hbm) rfl T.noN (fun h₃ tk₃ dx k₃ dn dne hx₃ hn₃ => ?_)
  show wpAny _ _ (execs _ _) _ _ _
  have z : s.heap.objs.size < h₁.objs.size := hn.lt
  exact wpAny_execs_nil (hq h₃ tk₃ dx ⟨fun b o hb e => k₃ b o hb (k b o e), hx₃, Nat.le_of_lt (Nat.lt_of_lt_of_le z dn), dne, hn₃⟩)
theorem ex_made (T : ExT K mg cx fld C fI) {v : Value} (X : K.In s.heap) (hlim : s.heap.NoLimit) (hroom : A.depth + 1 < recursionLimit)
    (hq : ∀ h' tk e d, OwnMade s.heap h' e C d fld v → R (.ok (.ret (.ref e))) { s with heap := h', toks := tk }) :
    codeAny (model prog w) A (.call (.ref C) ⟨[v], []⟩) R s := by
  obtain ⟨nm, q, N, bs, bm, sn, sub, ab, col, dd, k0, k1, k2, k3, k5, hC, hbm⟩ := T.cls
  obtain ⟨hp, g, dr, tk, os⟩ := s
  have k : ∀ b o, hp.get? b = some o → ((hp.push (kdv_tup [v])).push (excO C hp.objs.size)).get? b = some o := fun b o e => Heap.get?_push_of_some _ (Heap.get?_push_of_some _ e)
  have hget : ((hp.push (kdv_tup [v])).push (excO C hp.objs.size)).get? (hp.objs.size + 1) = some (excO C hp.objs.size) := by heap_get
  refine call_own F.excBase_ValueError (fun X => refsVE_contains X bm hbm) (X _ _ hC) (looks_findIn X T.iC) (fun self => bind_fn X self T.tC) (one_size v) ?_
  refine ex_init (s := ⟨(hp.push (kdv_tup [v])).push (excO C hp.objs.size), g, dr, tk, os⟩) T (X.keeps k) (hlim.keeps k) hget ?_ fun h' tk' dx ⟨k', hx, dn, dne, hns⟩ => ?_
  · show A.depth + 1 < recursionLimit
    exact hroom
  · have old : ∀ b o, hp.get? b = some o → h'.get? b = some o := fun b o e => k' b o (Nat.ne_of_lt (Nat.lt_succ_of_lt (Heap.lt_size e))) (k b o e)
    have z : hp.objs.size + 1 + 1 ≤ dx := by
      first
        | (simpa only [Heap.size_push] using dn)
        | exact dn
        | (have q := dn; rw [Heap.size_push, Heap.size_push] at q; exact q)
    exact ⟨rfl, hq h' tk' (hp.objs.size + 1) dx ⟨old, Nat.le_succ _, ⟨_, _, hx, rfl, rfl, rfl, rfl⟩, Nat.le_trans (Nat.le_trans (Nat.le_succ _) (Nat.le_succ _)) z, dne, hns⟩⟩
end
end DL
namespace DL
open PySem PySem.Spec PyProof.Rows L2
theorem relO_ex {v : V} {v' : Value} {fld : Str} (r : RelV v v') (f : Str) : RelO (List.lookup f [(fld, v)]) (if f = fld then some v' else none) := by
  by_cases hw : f = fld
  · subst hw
    rw [if_pos rfl]
    have q : List.lookup f [(f, v)] = some v := by simp [List.lookup]
    rw [q]
    exact r
  · rw [if_neg hw]
    have qw : (f == fld) = false := by simpa using hw
    have q2 : List.lookup f [(fld, v)] = none := by simp [List.lookup, qw]
    rw [q2]
    trivial
section
variable {X : Cx} {C fI : Addr} {cx fld : Str}
def tMkE (fld : Str) (C : Addr) (ta : TA) : SS → Hp → XK → Prop := fun σ H Q => ta σ H fun vs H1 => ∃ v, vs = [v] ∧ ∀ d, H1 d = none → Q (.ref C) (some d) (upd H1 d (.xd [(fld, v)]))
theorem pmk_ex {a : Expr} {ta : TA} {p pos : Pos} {k : Nat} (T : ExT X.K X.mg cx fld C fI) (hr : Room k X.A) (ha : PA X [a] ta) (hg : Gl X cx := by rfl) (hdb : (cx == ("__debug__" : Str)) = false := by decide)
    (he : starEach (a :: []) X.env = (false, eval a X.env) :: starEach [] X.env := by rfl) (hpl : (backTo pos (starEach [] X.env)).any (·.1) = false := by rfl) :
    PMk X (.Call (.Name cx p) [a] [] pos) (tMkE fld C ta) := by
  intro pins s σ H Q I h
  refine wpAny_Call_Name_kw (ld_glob I hg T.gC ?_ hdb)
  refine PySem.W.callWith_K (h₀ := X.base) I.ok.mod.kin T.kC (thn (ha.run pos pins s σ H _ I h) fun us s1 hh => ?_) he hpl
  obtain ⟨vs, H1, I1, r1, v, ev, q1⟩ := hh
  subst ev
  refine ⟨I1.kIn, ?_⟩
  cases r1 with
  | cons rv rn =>
    rename_i v' us'
    cases rn
    show wpAny _ _ (call (.ref C) [v']) _ _ _
    have hlim := I1.nolimit
    obtain ⟨hp, g, dr, tk, os⟩ := s1
    refine wpAny_call (ex_made T I1.kIn hlim (by have := hr.dp; omega) fun h' tk' e d M => ?_)
    show MkP X pins σ Q (.ref e) ⟨h', g, dr, tk', os⟩
    obtain ⟨oe, fv, hoe, hc, hd, hdat, h1⟩ := M.obj
    have hns := M.ns
    obtain ⟨G', g1, g2⟩ := restrict h' fun b => decide (b ≠ e)
    have gk : ∀ b, b ≠ e → G'.get? b = h'.get? b := fun b hb => g1 b (decide_eq_true hb)
    have ge : G'.get? e = none := g2 e (by simp)
    have old : ∀ b o, hp.get? b = some o → G'.get? b = some o := fun b o q => (gk b (Nat.ne_of_lt (Nat.lt_of_lt_of_le (Heap.lt_size q) M.new))).trans (M.keep b o q)
    have ob : ObjOk X.prog X.w (upd H1 d (.xd [(fld, v)])) G' d (.xd [(fld, v)]) :=
      ⟨_, hns.at (fun o q => (gk d M.dne).trans q), fun f => relO_ex rv f⟩
    have J : Inv X pins σ (upd H1 d (.xd [(fld, v)])) ⟨G', g, dr, tk', os⟩ := I1.laid (t' := tk') old M.dbig ob
    refine ⟨e, oe, fv, ⟨G', g, dr, tk', os⟩, _, .ref C, some d, rfl, J, fun b o q => ?_, ge, hoe, ⟨hc, hd⟩, hdat, h1, ?_, rfl, I1.bare, raises_own T.exC T.tyC, q1 d (I1.hok.fresh M.dbig)⟩
    · by_cases hb : b = e
      · have q' : G'.get? b = some o := q
        rw [hb, ge] at q'; cases q'
      · exact (gk b hb).symm.trans q
    · rw [upd_ne (Ne.symm M.dne)]
      exact I1.hok.fresh M.new
def tByE (fld : Str) (C : Addr) (a : Addr) (cls : Value) (d : Option Addr) (te : TE) : TE := fun σ H Q => te σ H fun x H1 => x = .ref a ∧ cls = .ref C ∧ ∃ (dd : Addr) (v : V), d = some dd ∧ H1 dd = some (.xd [(fld, v)]) ∧ Q v H1
theorem pe_byE {a : Addr} {oe : Obj} {cls : Value} {d : Option Addr} {pn : List (Addr × Obj)} {e : Expr} {te : TE} {pos : Pos} (T : ExT X.K X.mg cx fld C fI) (hz : Zc cls d oe) (hf : ∃ vs, oe.data = .fields vs) (he : PE (X.suite a ((a, oe) :: pn)) e te)
    (hb : attributeBase e fld X.env (eval e X.env) = eval e X.env) :
    PE (X.suite a ((a, oe) :: pn)) (.Attribute e fld pos) (tByE fld C a cls d te) := by
  refine ⟨fun pins s σ H Q I h => ?_⟩
  refine attr_of hb (thn (he.run pins s σ H _ I h) fun u s1 hh => ?_)
  obtain ⟨x, H1, I1, rx, ex, ec, dd, v, ed, ea, q⟩ := hh
  subst ex
  obtain rfl : u = Value.ref a := rx
  subst ec
  subst ed
  obtain ⟨ha, _⟩ := I1.pin (a, oe) (List.mem_append_left _ List.mem_cons_self)
  obtain ⟨vs, hd⟩ := hf
  have hx : ObjOk X.prog X.w H1 s1.heap dd (.xd [(fld, v)]) := I1.hok dd _ ea
  obtain ⟨mA, hns, hr⟩ := hx
  obtain ⟨od, ho, hl⟩ := lookIn_ns hns
  have l : List.lookup fld [(fld, v)] = some v := by simp [List.lookup]
  obtain ⟨u, hu, ru⟩ := RelO.some_of (v := v) (o := mA fld) (by rw [← l]; exact hr fld)
  have J : PySem.W.InstAt s1.heap a oe C (some od) := ⟨ha, hz.1, by unfold PySem.W.notCls; rw [hd] <;> rfl, by rw [hz.2]; exact ho⟩
  exact HandSPX.exc_get I1.kIn J T.ga T.gg T.exC (PySem.W.findObj_own T.hdC T.noN rfl (by rw [hl, hu])) (handed_of ru) ⟨v, H1, I1.tok _, ru, q⟩
end
end DL

set_option maxRecDepth 100000
/-! DL14: raise; try with several clauses "as n". -/
namespace DL
open PySem PySem.Spec PyProof.Rows L2
/-- what the clauses wish: each with a name's slot -/
def wManyA (K : PySem.W.Frag) (Wout : WX) (D : Ends) : List (Value × Nat × (Addr → Value → Option Addr → TS)) → WX
  | [] => Wout
  | (c, i, ts) :: r => fun cls d σ H => ∃ b, PySem.W.exmOne K cls c = some b ∧ (b = true → ∀ a, H a = none → ts a cls d { nx := fun σ' H' => D.nx (σ'.set i none) H', rt := D.rt, bk := fun σ' H' => D.bk (σ'.set i none) H', ct := fun σ' H' => D.ct (σ'.set i none) H' } (σ.set i (some (.ref a))) H) ∧ (b = false → wManyA K Wout D r cls d σ H)
inductive HdsOkA (X : Cx) : List ExceptHandler → List (Value × Nat × (Addr → Value → Option Addr → TS)) → Prop
  | nil : HdsOkA X [] []
  | cons {x n : Str} {i : Nat} {c : Value} {ts : Addr → Value → Option Addr → TS} {b₀ : Stmt} {suite : List Stmt} {np pos' : Pos} {hds : List ExceptHandler} {l : List (Value × Nat × (Addr → Value → Option Addr → TS))} (hi : X.N[i]? = some n) (hln : X.env.kindOf n = some .local) (hc : Names X x c)
      (hsu : ∀ (a : Addr) (oe : Obj) (cls : Value) (d : Option Addr) (pn : List (Addr × Obj)), Zc cls d oe → (∃ vs, oe.data = .fields vs) → PSs (X.suite a ((a, oe) :: pn)) (b₀ :: suite) (ts a cls d)) (r : HdsOkA X hds l) :
      HdsOkA X (.ExceptHandler (some (.Name x np)) (some n) (b₀ :: suite) pos' :: hds) ((c, i, ts) :: l)
/-- an exception that the def has caught: in the air over its frames; st0 is the def's state, st the state with the exception -/
structure Cau (X : Cx) (pins : List (Addr × Obj)) (σ : SS) (H : Hp) (B : Heap) (a : Addr) (cls : Value) (dx : Option Addr) (st0 st : Shared) : Prop where
  inv : Inv X pins σ H st0
  ground : ∀ b o, st0.heap.get? b = some o → b ∉ frs X.stack → B.get? b = some o
  upto : st0.heap.UpToSlots st.heap
  fly : HandSPX.FlyingZ B (X.env :: X.outer) a (Zc cls dx) st.heap
  new : H a = none
  same : st.os = st0.os
  bare : AllBare st.gens
section
variable {X : Cx} {pins : List (Addr × Obj)} {σ : SS} {H : Hp} {B : Heap} {a : Addr} {cls : Value} {dx : Option Addr} {st0 st : Shared}
/-- the def's invariant, the exception beside it -/
theorem Cau.here (k : Cau X pins σ H B a cls dx st0 st) : Inv X pins σ H st := k.inv.landed k.ground k.fly.1 k.upto k.same k.bare
/-- the exception is no frame -/
theorem Cau.out (k : Cau X pins σ H B a cls dx st0 st) : a ∉ frs (X.env :: X.outer) := fun h => by
  obtain ⟨x, y, z, _, w⟩ := k.fly.there
  obtain ⟨_, x', z', n⟩ := k.fly.2.2.1.mem h
  exact n y (by rw [z] at z'; cases z'; exact w)
/-- the same behind a change of slots alone -/
theorem Cau.on {h' : Heap} (k : Cau X pins σ H B a cls dx st0 st) (f : HandSPX.FlyingZ B (X.env :: X.outer) a (Zc cls dx) h') (u : st.heap.UpToSlots h') : Cau X pins σ H B a cls dx st0 { st with heap := h' } :=
  ⟨k.inv, k.ground, k.upto.trans u, f, k.new, k.same, k.bare⟩
/-- the context of a suite that holds it -/
theorem Cau.sui (k : Cau X pins σ H B a cls dx st0 st) (hf : X.env.frame = some X.env.locals) : ∃ oe, st.heap.get? a = some oe ∧ Zc cls dx oe ∧ (∃ vs, oe.data = .fields vs) ∧ Inv (X.suite a ((a, oe) :: (X.pn ++ pins))) [] σ H st := by
  obtain ⟨oe, vs, h1, h2, h3⟩ := k.fly.there
  refine ⟨oe, h1, h2, ⟨vs, h3⟩, k.here.suite h1 h3 k.new (fun z => ?_) fun m => ?_⟩
  · exact k.out (List.mem_filterMap.mpr ⟨_, List.mem_cons_self, z ▸ hf⟩)
  · obtain ⟨e, m1, m2⟩ := List.mem_filterMap.mp m
    exact k.out (List.mem_filterMap.mpr ⟨e, .tail _ m1, m2⟩)
variable {D : Ends} {Wout : WX}
/-- no clause takes it: it goes on -/
theorem Cau.goes (k : Cau X pins σ H B a cls dx st0 st) (hs : X.stack = X.env :: X.outer) (hf : X.env.frame = some X.env.locals) (tk : Takes X Wout) (w : Wout cls dx σ H) : wpAny (model X.prog X.w) X.A (handleBy (.ref a) X.env []) (SP X pins D) X.xe st := by
  obtain ⟨_, _, _, oe, vs, tb, _, _, g1, _, g3, g4, _⟩ := id k.fly
  have last : wpAny (model X.prog X.w) X.A (setFlight (.ref a) X.env.frame) (fun _ t => wpAny (model X.prog X.w) X.A (throw (.ref a) : Sem Flow) (SP X pins D) X.xe t) X.xe st := by
    rw [hf]
    exact HandSPX.setFlight_upZ k.fly fun h4 held up => wpAny_throw (tk _ _ ⟨a, B, st0, pins, σ, H, cls, dx, rfl, k.inv, k.ground, k.upto.trans up, .inr (.inr (hs ▸ held)), k.new, k.same, k.bare, w⟩)
  have isRef : ((Value.ref tb == Value.none) = true) ↔ False := by simp
  refine wpAny_handleBy_nil ?_
  unfold PySem.passOn
  refine wpAny_bind (wpAny_field g1 g3 g4 ?_)
  rw [if_neg (fun z => isRef.mp z)]
  first | exact wpAny_bind last | exact wpAny_bind (wpAny_pure (wpAny_bind last))
/-- the clause's class is looked up -/
theorem Cau.asks {x : Str} {c : Value} {np : Pos} (k : Cau X pins σ H B a cls dx st0 st) (hf : X.env.frame = some X.env.locals) (hc : Names X x c) {Q E : Value → Shared → Prop} (q : Q c st) : wpAny (model X.prog X.w) (X.A.mark (some (.ref a))) (eval (.Name x np) X.env) Q E st := by
  obtain ⟨oe, _, _, _, S⟩ := k.sui hf
  obtain ⟨gl, nd, hm⟩ := hc
  cases hm with
  | inl m => exact ld_glob (X := X.suite a ((a, oe) :: (X.pn ++ pins))) S gl m q nd
  | inr m => exact ld_blt (X := X.suite a ((a, oe) :: (X.pn ++ pins))) S gl m.1 m.2.1 q m.2.2 nd
/-- behind a suite: the name goes, then the ends -/
theorem sui_end {i : Nat} {n : Str} {oe : Obj} {pos' : Pos} {u : Shared} {f : Flow} (ok : X.Ok) (hN : X.N.Nodup) (hi : X.N[i]? = some n) (hln : X.env.kindOf n = some .local)
    (h : SP (X.suite a ((a, oe) :: (X.pn ++ pins))) [] { nx := fun σ' H' => D.nx (σ'.set i none) H', rt := D.rt, bk := fun σ' H' => D.bk (σ'.set i none) H', ct := fun σ' H' => D.ct (σ'.set i none) H' } f u) :
    wpAny (model X.prog X.w) X.A (do bindName X.env n .none; unbindBehindTheSuite X.env n pos') (fun _ t => SP X pins D f t) X.xe u := by
  cases f with
  | ret v =>
    obtain ⟨y, σ2, H2, S2, r2, q2⟩ := h
    exact gone_ok (S2.unsuite ok) hN hi hln fun t J => ⟨y, _, H2, J, r2, q2⟩
  | next =>
    obtain ⟨σ2, H2, S2, q2⟩ := h
    exact gone_ok (S2.unsuite ok) hN hi hln fun t J => ⟨_, H2, J, q2⟩
  | brk =>
    obtain ⟨σ2, H2, S2, q2⟩ := h
    exact gone_ok (S2.unsuite ok) hN hi hln fun t J => ⟨_, H2, J, q2⟩
  | cont =>
    obtain ⟨σ2, H2, S2, q2⟩ := h
    exact gone_ok (S2.unsuite ok) hN hi hln fun t J => ⟨_, H2, J, q2⟩
/-- the clauses, one after the other -/
theorem Cau.clauses (k : Cau X pins σ H B a cls dx st0 st) (hs : X.stack = X.env :: X.outer) (hf : X.env.frame = some X.env.locals) (hN : X.N.Nodup) (tk : Takes X Wout) {hds : List ExceptHandler} {l : List (Value × Nat × (Addr → Value → Option Addr → TS))} (h : HdsOkA X hds l) :
    wManyA X.K Wout D l cls dx σ H → wpAny (model X.prog X.w) X.A (handleBy (.ref a) X.env hds) (SP X pins D) X.xe st := by
  have kind : PySem.W.Looks (model X.prog X.w) st.heap (typeOf (.ref a)) cls := fun A Q E s kp q => by
    obtain ⟨_, _, e, z, _⟩ := k.fly.there
    exact wpAny_typeOf_ref (kp _ _ e) (z.1 ▸ q)
  induction h with
  | nil => exact k.goes hs hf tk
  | @cons x n i c ts b₀ suite np pos' more l2 hi hln hc hsu _ ih =>
    rintro ⟨t, fits, yes, no⟩
    refine wpAny_handleBy_cons (codeAny_handlers_test (k.asks hf hc ((PySem.W.exm_one k.here.kIn kind fits).here ?_))) fun q => by cases q
    by_cases ht : t = true
    · subst ht
      refine codeAny_handlers_suite_as (HandSPX.lands_againZ k.fly fun h2 f2 u2 => ?_)
      obtain ⟨oe, _, z2, d2, S2⟩ := (k.on f2 u2).sui hf
      refine store_ok (X := X.suite a ((a, oe) :: (X.pn ++ pins))) (v := .ref a) S2 hN hi (.inl hln) rfl (fun st3 S3 => ?_) (.inr hln)
      exact wpAny_mono ((hsu a oe cls dx _ z2 d2).run [] st3 _ H _ S3 (yes rfl a k.new)) (fun f u hu => sui_end k.inv.ok hN hi hln hu) fun _ _ z => z.elim
    · rw [Bool.not_eq_true] at ht
      subst ht
      exact ih (no rfl)
end
section
variable {X : Cx} {body : List Stmt} {h₀ : ExceptHandler} {hds : List ExceptHandler} {l : List (Value × Nat × (Addr → Value → Option Addr → TS))} {pos : Pos} {tb : WX → TS} {Wout : WX}
/-- what a try's body may raise: what the clauses do with it -/
def bodyX (X : Cx) (pins : List (Addr × Obj)) (D : Ends) (hds : List ExceptHandler) : Value → Shared → Prop := fun e s₁ => wpAny (model X.prog X.w) X.A (noteFrame e X.env) (fun _ s₂ => wpAny (model X.prog X.w) X.A (setFlight e none) (fun _ s₃ => wpAny (model X.prog X.w) X.A (handleBy e X.env hds) (SP X pins D) X.xe s₃) X.xe s₂) X.xe s₁
theorem ps_try_manyA (hs : X.stack = X.env :: X.outer) (hf : X.env.frame = some X.env.locals) (hN : X.N.Nodup) (tk : Takes X Wout)
    (hb : ∀ (W : WX) (pn : List (Addr × Obj)) (xe : Value → Shared → Prop), Takes (X.tr pn xe) W → PassesOwn (model X.prog X.w) X.A X.env xe → PSs (X.tr pn xe) body (tb W))
    (hh : HdsOkA X (h₀ :: hds) l) : PS X (.Try body (h₀ :: hds) [] [] pos) (fun D σ H => tb (wManyA X.K Wout D l) D σ H) := by
  refine ⟨fun pins s σ H D I h => wpAny_Try_except ?_⟩
  have fr : X.A.frames = some (X.env :: X.outer) := hs ▸ I.ok.frames
  have takes : Takes (X.tr (X.pn ++ pins) (bodyX X pins D (h₀ :: hds))) (wManyA X.K Wout D l) := fun u s' xx => by
    obtain ⟨a, B, t0, pins', σ', H', cls, dx, rfl, J, gr, up, sky, na, os, ag, w⟩ := xx
    have sky' : Sky B (X.env :: X.outer) a (Zc cls dx) X.env.locals s'.heap := hs ▸ sky
    show wpAny (model X.prog X.w) X.A (noteFrame (.ref a) X.env) _ X.xe s'
    exact sky'.land Zc.steady fr hf fun h3 f3 u3 => Cau.clauses (st := { s' with heap := h3 }) ⟨J.ofTry I.ok, gr, up.trans u3, f3, na, os, ag⟩ hs hf hN tk hh w
  refine wpAny_mono ((hb _ _ _ takes PassesOwn.looking).run [] s σ H D (I.toTry _) h) (fun f t ht => ?_) fun _ _ z => z
  cases f with
  | ret v =>
    obtain ⟨y, σ2, H2, J2, r2, q2⟩ := ht
    exact ⟨y, σ2, H2, J2.ofTry I.ok, r2, q2⟩
  | next =>
    obtain ⟨σ2, H2, J2, q2⟩ := ht
    exact wpAny_execs_nil ⟨σ2, H2, J2.ofTry I.ok, q2⟩
  | brk =>
    obtain ⟨σ2, H2, J2, q2⟩ := ht
    exact ⟨σ2, H2, J2.ofTry I.ok, q2⟩
  | cont =>
    obtain ⟨σ2, H2, J2, q2⟩ := ht
    exact ⟨σ2, H2, J2.ofTry I.ok, q2⟩
end
/-! ### the same by data -/
def exSub (c x : Str) : Bool := c == x || x == ("ConfigError" : Str)
def pickM {α : Type} (c : Str) (fs : List (Str × D)) : List (Str × (List (Str × D) → M α)) → M α
  | [] => M.exc c fs
  | (x, k) :: r => if exSub c x then M.nx (k fs) else pickM c fs r
/-- try: m except .. -/
def tryM {α : Type} (known : List Str) (cl : List (Str × (List (Str × D) → M α))) (m : M α) : M α := fun s => match m s with
  | .ex c fs s' => if known.contains c then pickM c fs cl s' else .bad
  | r => r
def fldM (fld : Str) : List (Str × D) → M D
  | [(f, d)] => if f = fld then pure d else M.bad
  | _ => M.bad
def Flo.unset (i : Nat) : Flo → Flo
  | .nx env => .nx (env.set i none)
  | .nc env => .nc (env.set i none)
  | .bk env => .bk (env.set i none)
  | f => f
section
variable {X : Cx} {W : WX} {xe env : EnvD} {α : Type} {dec : α → Flo} {U : TS} {rest : List Stmt}
theorem get_set_none {i j : Nat} {e : EnvD} {c : C} (h : (e.set i none)[j]? = some (some c)) : j ≠ i ∧ e[j]? = some (some c) := by
  by_cases q : i = j
  · subst q
    by_cases hl : i < e.length
    · rw [List.getElem?_set_self hl] at h; cases h
    · rw [List.getElem?_eq_none (by simpa using hl)] at h; cases h
  · rw [List.getElem?_set_ne q] at h; exact ⟨fun z => q z.symm, h⟩
theorem EnvOk.unset {K : PySem.W.Frag} {H : Hp} {g : Gh} {σ : SS} {e : EnvD} (x : EnvOk K H g σ e) (i : Nat) : EnvOk K H g (σ.set i none) (e.set i none) := by
  have go : ∀ {j : Nat}, j ≠ i → (σ.set i none)[j]? = σ[j]? := fun h => List.getElem?_set_ne (Ne.symm h)
  refine ⟨by simp [x.len], fun j d h => ?_, fun j d h => ?_, fun j k d d' a h1 h2 s1 s2 => ?_, fun j a dx fs h => ?_⟩
  · obtain ⟨n, h⟩ := get_set_none h; rw [go n]; exact x.val j d h
  · obtain ⟨n, h⟩ := get_set_none h; rw [go n]; exact x.own j d h
  · obtain ⟨n1, h1⟩ := get_set_none h1; obtain ⟨n2, h2⟩ := get_set_none h2
    rw [go n1] at s1; rw [go n2] at s2
    exact x.dis j k d d' a h1 h2 s1 s2
  · obtain ⟨n, h⟩ := get_set_none h; rw [go n]; exact x.exc j a dx fs h
theorem OwnFr.unset {H0 : Hp} {σ : SS} {e : EnvD} (x : OwnFr H0 σ e) (i : Nat) : OwnFr H0 (σ.set i none) (e.set i none) := fun j d a h1 h2 => by
  obtain ⟨n, h⟩ := get_set_none h1
  rw [List.getElem?_set_ne (Ne.symm n)] at h2
  exact x j d a h h2
theorem EnvOk.setExc {K : PySem.W.Frag} {H : Hp} {g : Gh} {σ : SS} {e : EnvD} (x : EnvOk K H g σ e) (i : Nat) {a : Addr} {dx : Option Addr} {fs : List (Str × D)} (xr : XRep K g H dx fs) : EnvOk K H g (σ.set i (some (.ref a))) (e.set i (some (.exc a dx fs))) := by
  have go : ∀ {j : Nat}, j ≠ i → (σ.set i (some (.ref a)))[j]? = σ[j]? := fun h => List.getElem?_set_ne (Ne.symm h)
  have here : ∀ {j : Nat} {c : C}, (e.set i (some (.exc a dx fs)))[j]? = some (some c) → (j = i ∧ c = .exc a dx fs ∧ i < e.length) ∨ (j ≠ i ∧ e[j]? = some (some c)) := fun {j c} h => by
    by_cases q : i = j
    · subst q
      by_cases hl : i < e.length
      · rw [List.getElem?_set_self hl] at h; cases h; exact .inl ⟨rfl, rfl, hl⟩
      · rw [List.getElem?_eq_none (by simpa using hl)] at h; cases h
    · rw [List.getElem?_set_ne q] at h; exact .inr ⟨fun z => q z.symm, h⟩
  refine ⟨by simp [x.len], fun j d h => ?_, fun j d h => ?_, fun j k d d' b h1 h2 s1 s2 => ?_, fun j b dx' fs' h => ?_⟩
  · rcases here h with ⟨_, q, _⟩ | ⟨n, h⟩
    · cases q
    · rw [go n]; exact x.val j d h
  · rcases here h with ⟨_, q, _⟩ | ⟨n, h⟩
    · cases q
    · rw [go n]; exact x.own j d h
  · rcases here h1 with ⟨_, q, _⟩ | ⟨n1, h1⟩
    · cases q
    · rcases here h2 with ⟨_, q, _⟩ | ⟨n2, h2⟩
      · cases q
      · rw [go n1] at s1; rw [go n2] at s2
        exact x.dis j k d d' b h1 h2 s1 s2
  · rcases here h with ⟨ej, q, hl⟩ | ⟨n, h⟩
    · cases q
      rw [ej]
      exact ⟨List.getElem?_set_self (by rw [← x.len]; exact hl), xr⟩
    · rw [go n]; exact x.exc j b dx' fs' h
theorem OwnFr.setExc {H0 : Hp} {σ : SS} {e : EnvD} (x : OwnFr H0 σ e) (i : Nat) {a : Addr} {dx : Option Addr} {fs : List (Str × D)} (v : V) : OwnFr H0 (σ.set i (some v)) (e.set i (some (.exc a dx fs))) := fun j d b h1 h2 => by
  by_cases q : i = j
  · subst q
    by_cases hl : i < e.length
    · rw [List.getElem?_set_self hl] at h1; cases h1
    · rw [List.getElem?_eq_none (by simpa using hl)] at h1; cases h1
  · rw [List.getElem?_set_ne q] at h1 h2
    exact x j d b h1 h2
theorem EndsOk.unset {K : PySem.W.Frag} {H0 : Hp} {g0 : Gh} {D : Ends} {s' : Sto} {f : Flo} {i : Nat} (h : EndsOk K H0 g0 D s' (f.unset i)) : EndsOk K H0 g0 { nx := fun σ' H' => D.nx (σ'.set i none) H', rt := D.rt, bk := fun σ' H' => D.bk (σ'.set i none) H', ct := fun σ' H' => D.ct (σ'.set i none) H' } s' f := by
  cases f with
  | nx env => exact fun σ H g a b c d => h _ H g a b (c.unset i) (d.unset i)
  | nc env => exact fun σ H g a b c d => h _ H g a b (c.unset i) (d.unset i)
  | rt d => exact h
  | fin d => exact ⟨h.1, fun e σ H g a b => h.2 e _ H g a b⟩
  | bk env => exact fun σ H g a b c d => h _ H g a b (c.unset i) (d.unset i)
/-- raise X(e) -/
theorem jc_raise {a : Expr} {m : M D} {cx fld : Str} {fI : Addr} {p p1 pos : Pos} {k : Nat} (hc : X.calm = true) (T : ExT X.K X.mg cx fld (He.ga X.K cx) fI) (hr : Room k X.A) (tk : Takes X W) (w : Weak xe env) (ha : JE X W env a m) (hg : Gl X cx := by rfl) (hdb : (cx == ("__debug__" : Str)) = false := by decide)
    (he : starEach (a :: []) X.env = (false, eval a X.env) :: starEach [] X.env := by rfl) (hpl : (backTo p1 (starEach [] X.env)).any (·.1) = false := by rfl) :
    JC X W xe env (.Raise (some (.Call (.Name cx p) [a] [] p1)) none pos :: rest) U (m >>= fun d => M.exc cx [(fld, d)]) dec :=
  PSs.step (ps_raise hc tk (pmk_ex T hr (pa_cons ha pa_nil he) hg hdb he hpl)) pss_never fun D1 σ H ⟨D, e1, H0, g0, g, s, st0, sr, eo, fr, q⟩ => by
    show tX X.K W env (RS X.K) m σ H _
    refine tS.expr w st0 sr eo fr q fun d s1 v H1 g1 st sr1 eo1 rv q1 => ?_
    refine ⟨v, rfl, fun dx hd => ?_⟩
    obtain ⟨st2, sr2, nb, nf⟩ := newOwn sr1 hd (.xd [(fld, v)])
    exact q1 σ _ g1 (some dx) ((st0.trans st).trans st2) sr2 ((eo1.step st2).weak w) (fr.weak w) (.inr ⟨dx, _, rfl, upd_same, nf, .cons rv .nil⟩)
/-- e.f of the exception that the suite holds -/
theorem je_fld {a : Addr} {oe : Obj} {dx : Option Addr} {pn : List (Addr × Obj)} {n cx fld : Str} {i : Nat} {fs : List (Str × D)} {fI : Addr} {p pos : Pos} (T : ExT X.K X.mg cx fld (He.ga X.K cx) fI) (hz : Zc (.ref (He.ga X.K cx)) dx oe) (hf : ∃ vs, oe.data = .fields vs)
    (he : env[i]? = some (some (.exc a dx fs))) (hN : X.N[i]? = some n) (hv : Vis X.env.scope n) (hd : (n == ("__debug__" : Str)) = false := by decide) (hcd : (n == ("__classdict__" : Str)) = false := by decide)
    (hb : attributeBase (.Name n p) fld X.env (eval (.Name n p) X.env) = eval (.Name n p) X.env := by rfl) :
    JE (X.suite a ((a, oe) :: pn)) W env (.Attribute (.Name n p) fld pos) (fldM fld fs) :=
  PE.imp (pe_byE T hz hf (pe_var hN hv hd hcd) hb) fun σ H Q ⟨g, s, sr, eo, q⟩ => by
    obtain ⟨h1, xr⟩ := eo.exc i a dx fs he
    have q' : (fldM fld fs s).post (okP X.K (RS X.K) H g Q) (exP X.K H g fun c dx H' => W c dx σ H') := q
    unfold fldM at q'
    split at q'
    · rename_i f d
      split at q'
      · rename_i ef
        subst ef
        rcases xr with z | ⟨q1, vs, e1, e2, e3, r⟩
        · cases z
        · cases r with
          | cons rv rn =>
            cases rn
            exact ⟨_, h1, rfl, rfl, q1, _, e1, e2, Mp.pure (Rl := RS X.K) q' sr rv⟩
      · exact q'.elim
    · exact q'.elim
/-- the clauses, by data -/
inductive Clauses (X : Cx) (xb xe : EnvD) {α : Type} (dec : α → Flo) : List ExceptHandler → List (Str × (List (Str × D) → M α)) → Prop
  | nil : Clauses X xb xe dec [] []
  | cons {x n : Str} {i : Nat} {b₀ : Stmt} {suite : List Stmt} {np pos' : Pos} {hds : List ExceptHandler} {k : List (Str × D) → M α} {l : List (Str × (List (Str × D) → M α))} {dec1 : α → Flo} (hi : X.N[i]? = some n) (hln : X.env.kindOf n = some .local) (hc : Names X x (.ref (He.ga X.K x)))
      (hd : ∀ a, dec a = (dec1 a).unset i)
      (hsu : ∀ (a : Addr) (oe : Obj) (c : Str) (d : Option Addr) (pn : List (Addr × Obj)) (fs : List (Str × D)), exSub c x = true → Zc (.ref (He.ga X.K c)) d oe → (∃ vs, oe.data = .fields vs) → JC (X.suite a ((a, oe) :: pn)) (fun _ _ _ _ => False) xe (xb.set i (some (.exc a d fs))) (b₀ :: suite) U0 (k fs) dec1) (r : Clauses X xb xe dec hds l) :
      Clauses X xb xe dec (.ExceptHandler (some (.Name x np)) (some n) (b₀ :: suite) pos' :: hds) ((x, k) :: l)
/-- what the clauses' readings are -/
def clTs (K : PySem.W.Frag) (xb xe : EnvD) {α : Type} (x : Str) (i : Nat) (k : List (Str × D) → M α) (dec1 : α → Flo) : Addr → Value → Option Addr → TS := fun a cls d DD σ H => ∃ (c : Str) (fs : List (Str × D)), cls = .ref (He.ga K c) ∧ exSub c x = true ∧ tS K (fun _ _ _ _ => False) xe (xb.set i (some (.exc a d fs))) (k fs) dec1 DD σ H
theorem Clauses.ok {X : Cx} {xb xe : EnvD} {α : Type} {dec : α → Flo} {hds : List ExceptHandler} {l : List (Str × (List (Str × D) → M α))} (h : Clauses X xb xe dec hds l) : ∃ L, HdsOkA X hds L ∧
    ∀ (W : WX) (DD : Ends) (c : Str) (fs : List (Str × D)) (s' : Sto) (H0 : Hp) (g0 : Gh), (∀ y ∈ l.map (·.1), PySem.W.exmOne X.K (.ref (He.ga X.K c)) (.ref (He.ga X.K y)) = some (exSub c y)) → (pickM c fs l s').post (fun a s1 => EndsOk X.K H0 g0 DD s1 (dec a)) (exS X.K H0 g0 xb W) →
      ∀ (σ' : SS) (H' : Hp) (g' : Gh) (dx : Option Addr), Step H0 g0 H' g' → SR X.K H' g' s' → EnvOk X.K H' g' σ' xb → OwnFr H0 σ' xb → XRep X.K g' H' dx fs → wManyA X.K W DD L (.ref (He.ga X.K c)) dx σ' H' := by
  induction h with
  | nil => exact ⟨[], .nil, fun W DD c fs s' H0 g0 _ q σ' H' g' dx st sr eo fr xr => q σ' H' g' dx st sr eo fr xr⟩
  | @cons x n i b₀ suite np pos' hds k l dec1 hi hln hc hd hsu r ih =>
    obtain ⟨L, h1, h2⟩ := ih
    refine ⟨(.ref (He.ga X.K x), i, clTs X.K xb xe x i k dec1) :: L, .cons hi hln hc (fun a oe cls d pn hz hf => ⟨fun pins s σ H DD I q => ?_⟩) h1, fun W DD c fs s' H0 g0 hex q σ' H' g' dx st sr eo fr xr => ?_⟩
    · obtain ⟨c, fs, rfl, e2, q⟩ := q
      exact (hsu a oe c d pn fs e2 hz hf).run pins s σ H DD I ⟨DD, ⟨rfl, rfl, rfl, fun _ _ h => h⟩, q⟩
    · refine ⟨exSub c x, hex x (by simp), fun e a ha => ?_, fun e => ?_⟩
      · refine ⟨c, fs, rfl, e, H0, g0, g', s', st, sr, eo.setExc i xr, fr.setExc i _, ?_⟩
        have q' : ((if exSub c x then M.nx (k fs) else pickM c fs l) s').post (fun a s1 => EndsOk X.K H0 g0 DD s1 (dec a)) (exS X.K H0 g0 xb W) := q
        rw [if_pos e] at q'
        exact Res.post.imp (M.nx_post (ex' := fun _ _ _ => False) q') (fun b s1 z => EndsOk.unset (by rw [← hd b]; exact z)) fun _ _ _ z => z.elim
      · have q' : ((if exSub c x then M.nx (k fs) else pickM c fs l) s').post (fun a s1 => EndsOk X.K H0 g0 DD s1 (dec a)) (exS X.K H0 g0 xb W) := q
        rw [if_neg (by rw [e]; decide)] at q'
        exact h2 W DD c fs s' H0 g0 (fun y hy => hex y (by simp at hy ⊢; exact .inr hy)) q' σ' H' g' dx st sr eo fr xr
/-- try: body / except .. as n: .. -/
theorem j1_try {known : List Str} {body : List Stmt} {h₀ : ExceptHandler} {hds : List ExceptHandler} {l : List (Str × (List (Str × D) → M α))} {m : M α} {xb : EnvD} {pos : Pos} (hs : X.stack = X.env :: X.outer) (hf : X.env.frame = some X.env.locals) (hN : X.N.Nodup) (tk : Takes X W) (w : Weak xe xb)
    (hex : ∀ c ∈ known, ∀ y ∈ l.map (·.1), PySem.W.exmOne X.K (.ref (He.ga X.K c)) (.ref (He.ga X.K y)) = some (exSub c y))
    (hb : ∀ (W' : WX) (pn : List (Addr × Obj)) (xe' : Value → Shared → Prop), Takes (X.tr pn xe') W' → JC (X.tr pn xe') W' xb env body U0 m dec)
    (hc : Clauses X xb xe dec (h₀ :: hds) l) : J1 X W xe env (.Try body (h₀ :: hds) [] [] pos) (tryM known l m) dec := by
  obtain ⟨L, h1, h2⟩ := hc.ok
  refine PS.imp (ps_try_manyA (tb := fun W' => tS X.K W' xb env m dec) hs hf hN tk (fun W' pn xe' tk' _ => ⟨fun pins s σ H DD I q => (hb W' pn xe' tk').run pins s σ H DD I ⟨DD, ⟨rfl, rfl, rfl, fun _ _ h => h⟩, q⟩⟩) h1) fun DD σ H ⟨H0, g0, g, s, st, sr, eo, fr, q⟩ => ?_
  refine ⟨H0, g0, g, s, st, sr, eo, fr, ?_⟩
  have q' : (tryM known l m s).post (fun a s' => EndsOk X.K H0 g0 DD s' (dec a)) (exS X.K H0 g0 xe W) := q
  unfold tryM at q'
  cases e : m s with
  | ok a s1 => rw [e] at q'; exact q'
  | bad => rw [e] at q'; exact q'
  | ex c fs s1 =>
    rw [e] at q'
    dsimp only at q'
    by_cases hk : known.contains c = true
    · rw [if_pos hk] at q'
      intro σ' H' g' dx st' sr' eo' fr' xr
      exact h2 W DD c fs s1 H0 g0 (fun y hy => hex c (by simpa using hk) y hy) (Res.post.imp q' (fun _ _ z => z) fun c' fs' s2 z => fun σ2 H2 g2 dx2 a b c d e => z σ2 H2 g2 dx2 a b (c.weak w) (d.weak w) e) σ' H' g' dx st' sr' eo' fr' xr
    · rw [if_neg hk] at q'
      exact q'.elim
end
end DL

set_option maxRecDepth 100000
set_option autoImplicit false
/-! DL15: stars, shared cells, own lists as lists, four names, tuple.index, constants of the module. -/
namespace DL
open PySem PySem.Spec PyProof.Rows L2
def Op.seqOf : D → M (List D)
  | .lst xs => pure xs
  | .tup xs => pure xs
  | _ => M.bad
section
variable {X : Cx} {W : WX} {env : EnvD}
/-- [*e, ..] -/
theorem ja_star {e : Expr} {es : List Expr} {p : Pos} {m : M D} {ms : M (List D)} (h : JB X W env e m) (hs : JA X W env es ms) (hst : starEach (.Starred e p :: es) X.env = (true, eval e X.env) :: starEach es X.env := by rfl) : JA X W env (.Starred e p :: es) (m >>= fun d => Op.seqOf d >>= fun xs => ms >>= fun ys => pure (xs ++ ys)) :=
  PA.imp (StX.pa_star h hs hst) fun σ H Q ⟨g, s, sr, eo, q⟩ => tX.bind sr eo q fun d s1 v H1 g1 st sr1 eo1 r q1 => by
    have fin : ∀ (xs : List D) (vs : List V), RepL X.K g1.fi g1.hb vs xs → Mp X.K (RSL X.K) (ms >>= fun ys => pure (xs ++ ys)) H1 g1 s1 Q (fun c dx H' => W c dx σ H') → tX X.K W env (RSL X.K) ms σ H1 fun ys H2 => Q (vs ++ ys) H2 := fun xs vs rl q2 =>
      tX.bind sr1 eo1 q2 fun ys s2 ws H2 g2 st2 sr2 eo2 rs q3 => Mp.pure q3 sr2 ((rl.mono st2.hb st2.fi).app rs)
    unfold Op.seqOf at q1
    split at q1
    · obtain ⟨a, vs, rfl, hl, rl⟩ := r.lst sr1
      exact ⟨a, vs, rfl, .inr hl, fin _ vs rl q1⟩
    · obtain ⟨a, vs, rfl, hl, rl⟩ := r.tup sr1
      exact ⟨a, vs, rfl, .inl hl, fin _ vs rl q1⟩
    · exact q1.elim
/-! ### shared cells -/
/-- a fresh thing becomes a shared cell -/
def alloc (d : D) : M D := fun s => .ok (.ref s.length) (s ++ [d])
theorem je_box {e : Expr} {m : M D} (h : JF X W env e m) : JE X W env e (m >>= alloc) := PE.imp h fun σ H Q ⟨g, s, sr, eo, q⟩ => ⟨g, s, sr, eo, Res.post.imp (post_bind.mp q) (fun d s1 x a H' g' st sr1 hn o nb nf => by
  have x' : okP X.K (RS X.K) H g Q (.ref s1.length) (s1 ++ [d]) := x
  have pr : Pre g'.fi (g'.fi ++ [a]) := Pre.app
  refine x' (.ref a) H' ⟨g'.hb, g'.fi ++ [a]⟩ ⟨st.hb, st.fi.trans pr, st.frame, st.live, st.newb, fun b h n => ?_⟩ ⟨sr1.sub, by simp [sr1.len], ?_, fun b h => ?_, fun n b e h1 h2 => ?_⟩ (.ref ?_)
  · rcases List.mem_append.mp h with h | h
    · exact st.newf b h n
    · simp at h; subst h; exact absurd hn n
  · exact List.nodup_append.mpr ⟨sr1.nodup, by simp, fun b hb c hc z => by simp at hc; subst hc; subst z; exact nf hb⟩
  · rcases List.mem_append.mp h with h | h
    · exact sr1.out b h
    · simp at h; subst h; exact nb
  · have h1' : (g'.fi ++ [a])[n]? = some b := h1
    by_cases hl : n < g'.fi.length
    · rw [List.getElem?_append_left hl] at h1'
      rw [List.getElem?_append_left (by rw [← sr1.len]; exact hl)] at h2
      exact (sr1.cell n b e h1' h2).mono .rfl pr fun _ h => h
    · rw [List.getElem?_append_right (by omega)] at h1'
      rw [List.getElem?_append_right (by rw [← sr1.len]; omega)] at h2
      have en : n - g'.fi.length = 0 := by
        have := (List.getElem?_eq_some_iff.mp h1').1
        simp at this
        omega
      rw [en] at h1'
      rw [← sr1.len, en] at h2
      simp at h1' h2
      subst h1' h2
      exact (o.mono .rfl pr fun _ h => h).cel
  · show (g'.fi ++ [a])[s1.length]? = some a
    rw [← sr1.len]; simp) fun _ _ _ x => x⟩
/-- c[i] = v, c a shared cell -/
def Op.setIx (c i v : D) : M Unit := fun s => match c, i with
  | .ref n, .int k => (match s[n]? with
    | some (.lst ds) => (match ixN ds.length k with
      | some j => .ok () (s.set n (.lst (ds.set j v)))
      | none => .bad)
    | _ => .bad)
  | _, _ => .bad
theorem nx_setIx (c i v : D) : NoEx (Op.setIx c i v) := fun s c' x s' h => by
  unfold Op.setIx at h
  split at h
  · split at h
    · split at h <;> cases h
    · cases h
  · cases h
end
section
variable {X : Cx} {W : WX} {xe env : EnvD} {α : Type} {dec : α → Flo} {U : TS} {rest : List Stmt} {e : Expr} {pos : Pos}
/-- what a store to a shared cell does -/
theorem cell_upd {K : PySem.W.Frag} {H0 H : Hp} {g0 g : Gh} {s : Sto} {σ : SS} {a : Addr} {n : Nat} {d' : D} {o : HO} (st : Step H0 g0 H g) (sr : SR K H g s) (eo : EnvOk K H g σ env) (ha : g.fi[n]? = some a) (hn : n < s.length) (h0 : H0 a = none ∨ a ∈ g0.fi) (hd : ∀ H' : Hp, H' a = some o → Own K g.fi g.hb H' a d') (hx : ∀ (vs : List (Str × V)), H a ≠ some (.xd vs)) :
    Step H0 g0 (upd H a o) g ∧ SR K (upd H a o) g (s.set n d') ∧ EnvOk K (upd H a o) g σ env := by
  have am : a ∈ g.fi := List.mem_of_getElem? ha
  refine ⟨⟨st.hb, st.fi, fun b u h nb => ?_, fun b h => ?_, st.newb, st.newf⟩, ⟨fun b u h => ?_, by simp [sr.len], sr.nodup, sr.out, fun k b d h1 h2 => ?_⟩, ⟨eo.len, eo.val, fun i d h => ?_, eo.dis, fun i b dx fs h => ?_⟩⟩
  · have : b ≠ a := fun z => by
      subst z
      rcases h0 with h0 | h0
      · rw [h0] at h; cases h
      · exact nb h0
    rw [upd_ne this]; exact st.frame b u h nb
  · by_cases e : b = a
    · subst e; rw [upd_same] at h; cases h
    · rw [upd_ne e] at h; exact st.live b h
  · have : b ≠ a := fun z => by
      subst z
      rw [sr.out _ am] at h; cases h
    rw [upd_ne this]; exact sr.sub _ _ h
  · by_cases e : k = n
    · subst e
      rw [ha] at h1; cases h1
      rw [List.getElem?_set_self hn] at h2; cases h2
      exact (hd _ upd_same).cel
    · rw [List.getElem?_set_ne (fun z => e z.symm)] at h2
      have : b ≠ a := fun z => e (by
        subst z
        have l1 := (List.getElem?_eq_some_iff.mp h1)
        have l2 := (List.getElem?_eq_some_iff.mp ha)
        exact (List.getElem_inj sr.nodup).mp (l1.2.trans l2.2.symm))
      exact (sr.cell k b d h1 h2).mono .rfl .rfl fun u hu => by rw [upd_ne this]; exact hu
  · obtain ⟨b, h1, ow, nb, nf⟩ := eo.own i d h
    have : b ≠ a := fun z => nf (by rw [z]; exact am)
    exact ⟨b, h1, ow.mono .rfl .rfl fun u hu => by rw [upd_ne this]; exact hu, nb, nf⟩
  · obtain ⟨h1, xr⟩ := eo.exc i b dx fs h
    refine ⟨h1, ?_⟩
    rcases xr with z | ⟨p, vs, e1, e2, e3, e4⟩
    · exact .inl z
    · exact .inr ⟨p, vs, e1, by rw [upd_ne (fun z => e3 (by rw [z]; exact am))]; exact e2, e3, e4⟩
theorem step_old {H0 H : Hp} {g0 g : Gh} (st : Step H0 g0 H g) {a : Addr} (h : a ∈ g.fi) : H0 a = none ∨ a ∈ g0.fi := by
  by_cases z : H0 a = none
  · exact .inl z
  · exact .inr (st.newf a h z)
/-- c[i] = e -/
theorem jc_cell {c i : Expr} {tpos : Pos} {m mc mi : M D} {k : M α} (w : Weak xe env) (h : JE X W env e m) (hc : JE X W env c mc) (hi : JE X W env i mi) (hr : JC X W xe env rest U k dec)
    (ha : ∀ v, assign (.Subscript c i tpos) X.env v = (do
      let ov ← holding [v] (eval c X.env)
      let iv ← holding [v, ov] (eval i X.env)
      standAt tpos
      holding [v, ov, iv] (setItem ov iv v)
      release [v, ov, iv] []) := by intro _; rfl)
    (hs : swapsWithSole [.Subscript c i tpos] e pos.line X.env = pure false := by rfl) (hw : swappedStores [.Subscript c i tpos] e X.env = pure none := by rfl)
    (h1 : (assignEach [.Subscript c i tpos] X.env).map (·.2) = [assign (.Subscript c i tpos) X.env] := by rfl) :
    JC X W xe env (.Assign [.Subscript c i tpos] e pos :: rest) U (m >>= fun v => mc >>= fun d => mi >>= fun j => Op.setIx d j v >>= fun _ => k) dec :=
  PSs.step (ps_asg h (pg_sub hc hi set_list ha) hs hw h1) (nexts_run (δ := Unit) (f := fun _ => env) (k := fun _ => k) fun _ => hr) fun D1 σ H ⟨Dn, e1, H0, g0, gg, s, st0, sr, eo, fr, q⟩ => by
    refine tS.expr (Rl := RS X.K) w st0 sr eo fr q fun v s1 vv H1 g1 st1 sr1 eo1 rv q1 => ?_
    refine tS.expr (Rl := RS X.K) w (st0.trans st1) sr1 eo1 fr q1 fun d s2 dv H2 g2 st2 sr2 eo2 rd q2 => ?_
    refine tS.expr (Rl := RS X.K) w ((st0.trans st1).trans st2) sr2 eo2 fr q2 fun j s3 jv H3 g3 st3 sr3 eo3 rj q3 => ?_
    have q4 := post_bind.mp q3
    have q5 : (Op.setIx d j v s3).post _ _ := q4
    unfold Op.setIx at q5
    split at q5
    · rename_i n kk
      split at q5
      · rename_i ds hds
        split at q5
        · rename_i jj hj
          cases rj
          cases (rd.mono st3.hb st3.fi) with
          | @ref a _ hfa =>
            obtain ⟨vs, hH, rl⟩ := sr3.cell n a _ hfa hds
            have S := ((st0.trans st1).trans st2).trans st3
            have rv3 := (rv.mono st2.hb st2.fi).mono st3.hb st3.fi
            obtain ⟨c1, c2, c3⟩ := cell_upd (o := .lst (vs.set jj vv)) (d' := .lst (ds.set jj v)) S sr3 eo3 hfa (List.getElem?_eq_some_iff.mp hds).1 (step_old S (List.mem_of_getElem? hfa)) (fun H' z => ⟨_, z, rl.set rv3 jj⟩) (fun xs z => by rw [hH] at z; cases z)
            exact ⟨a, vs, kk, jj, rfl, rfl, hH, by rw [rl.length]; exact hj, (), Dn, e1, H0, g0, g3, _, c1, c2, c3, fr, q5⟩
        · exact q5.elim
      · exact q5.elim
    · exact q5.elim
/-! ### own lists as lists -/
theorem jc_bad {A : List Stmt} : JC X W xe env A U (M.bad : M α) dec := ⟨fun pins s σ H D1 I ⟨Dn, e1, H0, g0, g, st, st0, sr, eo, fr, h⟩ => (show False from h).elim⟩
def lstK (k : List D → M α) : D → M α
  | .lst xs => k xs
  | _ => M.bad
theorem jc_lstK {A : List Stmt} {k : List D → M α} {f : D → EnvD} (h : ∀ xs, JC X W xe (f (.lst xs)) A U (k xs) dec) : ∀ d, JC X W xe (f d) A U (lstK k d) dec
  | .lst xs => h xs
  | .non => jc_bad
  | .bl _ => jc_bad
  | .int _ => jc_bad
  | .str _ => jc_bad
  | .tup _ => jc_bad
  | .dct _ => jc_bad
  | .set _ => jc_bad
  | .obj _ _ => jc_bad
  | .ref _ => jc_bad
end
/-! ### four names -/
def un4 : D → M (D × D × D × D)
  | .tup [a, b, c, d] => pure (a, b, c, d)
  | _ => M.bad
theorem go_tup4 (K : PySem.W.Frag) (i j k l : Nat) : GOk K (gTup K 4 (gCons (gName i) (gCons (gName j) (gCons (gName k) (gCons (gName l) gNil))))) [i, j, k, l] un4 (fun env a => (((env.set i (some (.val a.1))).set j (some (.val a.2.1))).set k (some (.val a.2.2.1))).set l (some (.val a.2.2.2))) where
  go := fun env σ H gh s s1 x d a Q sr eo r h => by
    unfold un4 at h
    split at h
    · rename_i p q t u
      have h' : Res.ok (p, q, t, u) s = Res.ok a s1 := h
      cases h'
      refine ⟨rfl, fun q => ?_⟩
      cases r with
      | tup ht rl =>
        cases rl with
        | cons r1 rl =>
          cases rl with
          | cons r2 rl =>
            cases rl with
            | cons r3 rl =>
              cases rl with
              | cons r4 rl =>
                cases rl
                refine ⟨_, _, rfl, SqT.sub ht sr.sub, rfl, _, _, rfl, _, _, rfl, _, _, rfl, _, _, rfl, rfl, ?_⟩
                exact q _ ((((eo.set r1 i).set r2 j).set r3 k).set r4 l) (fun vs hv => by rw [wipe_set (hv l (by simp)), wipe_set (hv k (by simp)), wipe_set (hv j (by simp)), wipe_set (hv i (by simp))]) fun n hn => by
                  rw [List.getElem?_set_ne (fun z => hn (by simp [z])), List.getElem?_set_ne (fun z => hn (by simp [z])), List.getElem?_set_ne (fun z => hn (by simp [z])), List.getElem?_set_ne (fun z => hn (by simp [z]))]
    · cases h
  nx := fun d => by unfold un4; split; exact noEx_pure _; exact noEx_bad
  ow := fun env a j d h => by
    obtain ⟨h1, h2⟩ := own_set h
    obtain ⟨h3, h4⟩ := own_set h2
    obtain ⟨h5, h6⟩ := own_set h4
    obtain ⟨h7, h8⟩ := own_set h6
    exact ⟨by simp [h1, h3, h5, h7], h8⟩
/-! ### tuple.index of texts -/
def Me.tupIndex : D → List D → M D
  | .tup xs, [.str z] => Bi.opt (Bi.strsOf xs) fun (ys : List Str) => if z ∈ ys then pure (.int (ys.idxOf z : Nat)) else M.bad
  | _, _ => M.bad
def Me.isTup : D → M Unit
  | .tup _ => pure ()
  | _ => M.bad
theorem nx_tupIndex (d : D) (ds : List D) : NoEx (Me.tupIndex d ds) := by unfold Me.tupIndex; split <;> first | exact Bi.noEx_opt fun _ => noEx_ite (noEx_pure _) noEx_bad | exact noEx_opt fun _ => noEx_ite (noEx_pure _) noEx_bad | exact noEx_bad
section
variable {X : Cx} {W : WX} {env : EnvD}
theorem BorL.oneD {K : PySem.W.Frag} {H : Hp} {g : Gh} {vs : List V} {d : D} (b : BorL K g H vs [d]) : ∃ v, vs = [v] ∧ Bor K g H v d := by
  cases b with
  | cons h r => cases r; exact ⟨_, rfl, h⟩
theorem md_tupIndex : MtD X "tuple.index" Me.tupIndex := by
  intro pins s σ H x xs v us Q I rx rs ⟨g, st, d, ds, sr, bx, bxs, q⟩
  unfold Me.tupIndex at q
  split at q
  · rename_i zs z
    obtain ⟨ys, hys, q⟩ := Mp.opt q
    have q' : ((if z ∈ ys then pure (D.int (ys.idxOf z : Nat)) else M.bad : M D) st).post (okP X.K (RS X.K) H g Q) (exP X.K H g fun _ _ _ => False) := q
    split at q'
    · rename_i hm
      obtain ⟨a, vs, rfl, hl, rl⟩ := bx.tup sr
      obtain ⟨w, rfl, bw⟩ := BorL.oneD bxs
      have := bw.str
      subst this
      have e := Bi.strs_eq hys
      subst e
      have e2 := rl.strs
      subst e2
      have hlt : ys.idxOf z < ys.length := List.idxOf_lt_length_iff.mpr hm
      refine mt_tup_index pins s σ H _ _ v us Q I rx rs ⟨a, ys, z, ys.idxOf z, rfl, rfl, hl, ?_, fun m hm' z' => ?_, Mp.pure (Rl := RS X.K) q' sr (.int _)⟩
      · rw [List.getElem?_eq_getElem hlt, List.getElem_idxOf hlt]
      · have l := (List.getElem?_eq_some_iff.mp z')
        have e3 := List.not_of_lt_findIdx (p := (· == z)) (xs := ys) (i := m) hm'
        rw [l.2] at e3
        simp at e3
    · exact q'.elim
  · exact q.elim
/-! ### constants of the module -/
def mapO (f : Value → Option D) : List Value → Option (List D)
  | [] => some []
  | u :: us => match f u with
    | some d => (match mapO f us with
      | some ds => some (d :: ds)
      | none => none)
    | none => none
def absF (K : PySem.W.Frag) (f : Value → Option D) : Value → Option D
  | .none => some .non
  | .bool b => some (.bl b)
  | .int i _ => some (.int i)
  | .str x _ => some (.str x)
  | .ref a => match K.lookup a with
    | some ⟨.type T, none, .seq its _, _⟩ => if its.size ≤ 1000 then (if T = "tuple" then (mapO f its.toList).map .tup else if T = "list" then (mapO f its.toList).map .lst else none) else none
    | _ => none
  | _ => none
def absK (K : PySem.W.Frag) : Nat → Value → Option D
  | 0 => absF K fun _ => none
  | n + 1 => absF K (absK K n)
def AbsOk (K : PySem.W.Frag) (f : Value → Option D) : Prop := ∀ (u : Value) (d : D), f u = some d → ∃ v, RelV v u ∧ ∀ fi H, Rep K fi H v d
theorem mapO_ok {K : PySem.W.Frag} {f : Value → Option D} (hf : AbsOk K f) : ∀ (us : List Value) (ds : List D), mapO f us = some ds → ∃ vs, Vals vs us ∧ ∀ fi H, RepL K fi H vs ds
  | [], ds, h => by unfold mapO at h; cases h; exact ⟨[], .nil, fun _ _ => .nil⟩
  | u :: us, ds, h => by
    unfold mapO at h
    split at h
    · rename_i d h1
      split at h
      · rename_i ds' h2
        cases h
        obtain ⟨v, r1, r2⟩ := hf u d h1
        obtain ⟨vs, r3, r4⟩ := mapO_ok hf us ds' h2
        exact ⟨v :: vs, .cons r1 r3, fun fi H => .cons (r2 fi H) (r4 fi H)⟩
      · cases h
    · cases h
theorem absF_ok {K : PySem.W.Frag} {f : Value → Option D} (hf : AbsOk K f) : AbsOk K (absF K f) := by
  intro u d h
  cases u with
  | none => unfold absF at h; cases h; exact ⟨.non, rfl, fun _ _ => .non⟩
  | bool b => unfold absF at h; cases h; exact ⟨.bl b, rfl, fun _ _ => .bl b⟩
  | int i t => unfold absF at h; cases h; exact ⟨.int i, ⟨t, rfl⟩, fun _ _ => .int i⟩
  | str x t => unfold absF at h; cases h; exact ⟨.str x, ⟨t, rfl⟩, fun _ _ => .str x⟩
  | ref a =>
    unfold absF at h
    dsimp only at h
    split at h
    · rename_i T its nn sl hk
      split at h
      · rename_i hz
        have hz' : its.size ≤ sizeLine := by rw [sizeLine_eq]; omega
        split at h
        · rename_i hT
          subst hT
          cases e : mapO f its.toList with
          | none => rw [e] at h; cases h
          | some ds =>
            rw [e] at h
            cases h
            obtain ⟨vs, r1, r2⟩ := mapO_ok hf _ ds e
            exact ⟨.ref a, rfl, fun fi H => .tup (.inr ⟨_, its, nn, hk, rfl, rfl, hz', r1⟩) (r2 fi H)⟩
        · split at h
          · rename_i hT
            subst hT
            cases e : mapO f its.toList with
            | none => rw [e] at h; cases h
            | some ds =>
              rw [e] at h
              cases h
              obtain ⟨vs, r1, r2⟩ := mapO_ok hf _ ds e
              exact ⟨.ref a, rfl, fun fi H => .lst (.inr ⟨_, its, nn, hk, rfl, rfl, rfl, hz', r1⟩) (r2 fi H)⟩
          · cases h
      · cases h
    · cases h
  | _ => unfold absF at h; cases h
theorem absK_ok {K : PySem.W.Frag} : ∀ (n : Nat), AbsOk K (absK K n)
  | 0 => absF_ok fun _ _ h => by cases h
  | n + 1 => absF_ok (absK_ok n)
/-- what K holds of the module's name x -/
def glK (K : PySem.W.Frag) (x : Str) : Option D := match PySem.W.nsIn K mainGlobals x with
  | some (some u) => absK K 4 u
  | _ => none
def gtK (K : PySem.W.Frag) (x : Str) : Bool := match PySem.W.nsIn K mainGlobals x with
  | some (some (.ref a)) => (match K.lookup a with
    | some ⟨.type T, none, _, _⟩ => T == "tuple"
    | _ => false)
  | _ => false
structure GlD (K : PySem.W.Frag) (mg : Str → Option Value) (x : Str) (d : D) : Prop where
  ex : ∃ u v, mg x = some u ∧ RelV v u ∧ ∀ fi H, Rep K fi H v d
/-- .. a tuple -/
structure GlT (K : PySem.W.Frag) (mg : Str → Option Value) (x : Str) (ds : List D) : Prop where
  ex : ∃ a o, mg x = some (.ref a) ∧ K.lookup a = some o ∧ o.cls = .type "tuple" ∧ o.dict = none ∧ ∀ fi H, Rep K fi H (.ref a) (.tup ds)
theorem GlD.of {K : PySem.W.Frag} {mg : Str → Option Value} {h : Heap} {x : Str} {d : D} (X : K.In h) (G : h.Ns mainGlobals mg) (e : glK K x = some d) : GlD K mg x d := by
  unfold glK at e
  split at e
  · rename_i u hu
    obtain ⟨v, r1, r2⟩ := absK_ok 4 u d e
    exact ⟨u, v, PySem.W.mg_of X G hu, r1, r2⟩
  · cases e
theorem GlT.of {K : PySem.W.Frag} {mg : Str → Option Value} {h : Heap} {x : Str} {ds : List D} (X : K.In h) (G : h.Ns mainGlobals mg) (e : glK K x = some (.tup ds)) (e2 : gtK K x = true) : GlT K mg x ds := by
  obtain ⟨u, v, h1, h2, h3⟩ := (GlD.of X G e).ex
  unfold gtK at e2
  split at e2
  · rename_i a ha
    have := PySem.W.mg_of X G ha
    rw [h1] at this
    cases this
    split at e2
    · rename_i T dt sl hk
      have hT : T = "tuple" := by simpa using e2
      subst hT
      have hv : v = .ref a := by
        have r0 := h3 [] (fun _ => none)
        cases r0 with
        | tup _ _ => cases h2; rfl
      subst hv
      exact ⟨a, _, h1, hk, rfl, rfl, h3⟩
    · cases e2
  · cases e2
theorem je_gD {x : Str} {d : D} {pos : Pos} (G : GlD X.K X.mg x d) (hg : Gl X x) (hd : (x == ("__debug__" : Str)) = false := by decide) : JE X W env (.Name x pos) (pure d) := by
  obtain ⟨u, v, h1, h2, h3⟩ := G.ex
  exact je_const (pe_glob (v := v) hg h1 h2 hd) fun g => h3 g.fi g.hb
theorem GlT.d {K : PySem.W.Frag} {mg : Str → Option Value} {x : Str} {ds : List D} (G : GlT K mg x ds) : GlD K mg x (.tup ds) := by
  obtain ⟨a, o, h1, _, _, _, h3⟩ := G.ex
  exact ⟨_, .ref a, h1, rfl, h3⟩
/-- X.m(e), X a tuple of the module -/
theorem je_gtupM {x : Str} {p : Pos} {es0 : List D} {e : Expr} {es : List Expr} {name : Str} {apos cpos : Pos} {id : String} {f : D → List D → M D} {m : M (List D)} (G : GlT X.K X.mg x es0) (hg : Gl X x) (slot : Slot "tuple" name id) (hty : typeOf (.builtin id) = pure (.type "method_descriptor")) (hm : MtD X id f) (nx : ∀ d ds, NoEx (f d ds)) (ha : JAb X W env (e :: es) m)
    (hbase : attributeBase (.Name x p) name X.env (eval (.Name x p) X.env) = eval (.Name x p) X.env := by rfl)
    (hfew : ((backTo cpos (starEach (e :: es) X.env)).all (fun x => !x.1) && (backToKw cpos (keywordEach [] X.env)).all (fun x => x.1.isSome)
      && decide ((e :: es).length + ([] : List Keyword).length + (if ([] : List Keyword).isEmpty then 0 else 1) < 30)) = true := by rfl)
    (hline : (apos.endLine == cpos.line) = true := by rfl) (hs : starEach (e :: es) X.env = (false, eval e X.env) :: starEach es X.env := by rfl) (hplain : (backTo cpos (starEach es X.env)).any (·.1) = false := by rfl) (hd : (x == ("__debug__" : Str)) = false := by decide) :
    JE X W env (.Call (.Attribute (.Name x p) name apos) (e :: es) [] cpos) (m >>= fun ds => f (.tup es0) ds) := by
  obtain ⟨a, o, h1, h2, h3, h4, h5⟩ := G.ex
  refine PE.imp (pe_bm PySem.F.plainAttrs_tuple slot hty hm (pe_glob (v := .ref a) hg h1 rfl hd) ha hbase hfew hline hs hplain) fun σ H Q ⟨g, s, sr, eo, q⟩ => ?_
  refine ⟨.inr (.inl ⟨rfl, o, h2, h3, h4⟩), tX.bind sr eo q fun ds s2 vs H2 g2 st2 sr2 eo2 rs q2 => ⟨g2, s2, _, ds, sr2, .inl (h5 _ _), rs, (nx _ _).mp q2⟩⟩
end
end DL

set_option maxRecDepth 100000
set_option autoImplicit false
/-! DL16: facts of K told by the head: exception classes with __init__, constants. -/
namespace DL
open PySem PySem.Spec PyProof.Rows L2
def clsK (K : PySem.W.Frag) (C : Addr) : Bool := match K.lookup C with
  | some ⟨.type "type", _, .cls cd, sl⟩ => (match cd.mro, sl.toList with
    | .ref C' :: bm, [_, _, _, _, some (.builtin n), _] => C' == C && (n == "ValueError.__new__" && (!cd.hasDel && (cd.hasDict && HandSPX.refsVE bm)))
    | _, _ => false)
  | _ => false
theorem clsK_ok {K : PySem.W.Frag} {C : Addr} (q : clsK K C = true) : ∃ nm q N bs bm sn sub ab col dd k0 k1 k2 k3 k5, K.lookup C = some (excClassObj nm q C N bs bm true sn sub ab col dd k0 k1 k2 k3 k5 "ValueError.__new__") ∧ HandSPX.refsVE bm = true := by
  unfold clsK at q
  split at q
  · rename_i dd cd sl ho
    split at q
    · rename_i C' bm k0 k1 k2 k3 n k5 hm hs
      simp only [Bool.and_eq_true, beq_iff_eq, Bool.not_eq_true'] at q
      obtain ⟨rfl, rfl, hdel, hd, hr⟩ := q
      obtain ⟨nm, bs, mro, ns, qn, hd, sn, sub, ab, col, del⟩ := cd
      dsimp only at hm hdel hd
      subst hm hdel hd
      have hsl : sl = #[k0, k1, k2, k3, some (.builtin "ValueError.__new__"), k5] := by
        obtain ⟨l⟩ := sl
        simp only at hs
        rw [hs]
      subst hsl
      exact ⟨nm, qn, ns, bs, bm, sn, sub, ab, col, dd, k0, k1, k2, k3, k5, ho, hr⟩
    · cases q
  · cases q
def ob (a b : Option (Option Value)) : Bool := decide (a = b)
/-- of the class x: all that ExT asks but the def -/
def exK (K : PySem.W.Frag) (x fld : Str) : Bool :=
  let C := He.ga K x
  let f := He.ma K C "__init__"
  clsK K C && (decide (PySem.W.findIn K (.ref C) "__setattr__" = some (some (.builtin "object.__setattr__"))) && (decide (PySem.W.findIn K (.ref C) "__getattribute__" = some (some (.builtin "BaseException.__getattribute__"))) &&
    (decide (PySem.W.findIn K (.ref C) "__getattr__" = some none) && (decide (PySem.W.findIn K (.ref C) fld = some none) && (decide (PySem.W.findIn K (.ref C) "__init__" = some (some (.ref f))) &&
    (decide (PySem.W.typeIn K (.ref f) = some (.type "function")) && (PySem.W.keepIn K (.ref C) && (decide (PySem.W.subIn K (.ref C) (.type "BaseException") = some true) && (decide (PySem.W.typeIn K (.ref C) = some (.type "type")) && PySem.W.hasDictIn K C)))))))))
theorem ExT.of {K : PySem.W.Frag} {mg : Str → Option Value} {x fld qual : Str} {st : Stmt} {p1 p2 q1 q2 q3 q4 : Pos} {fd : FuncData} (gC : mg x = some (.ref (He.ga K x))) (h : exK K x fld = true)
    (F : FunD K "__init__" qual (defArgs st) (defBody st) (defScope st) [] [] (He.ma K (He.ga K x) "__init__") fd) (hA : defArgs st = iA fld p1 p2) (hB : defBody st = iB fld q1 q2 q3 q4) (hS : defScope st = iS fld)
    (ns : (fld == ("self" : Str)) = false) (nd : (fld == ("__debug__" : Str)) = false)
    (bnd : ∀ (q : Str) (kV doc pm : Value) (an : Option Addr) (cdv ct : Value) (p1 p2 q1 q2 q3 q4 : Pos) (x v : Value), bindArgs (PySem.W.fnOf "__init__" q (iA fld p1 p2) (iB fld q1 q2 q3 q4) (iS fld) .none kV doc pm an cdv ct) ⟨[x, v], []⟩ = pure [(PySem.Str.ofString "self", x), (fld, v)]) : ExT K mg x fld (He.ga K x) (He.ma K (He.ga K x) "__init__") := by
  unfold exK at h
  simp only [Bool.and_eq_true, decide_eq_true_eq] at h
  obtain ⟨h1, h2, h3, h4, h5, h6, h7, h8, h9, h10, h11⟩ := h
  obtain ⟨oc, od, dV, kV, doc, pm, an, cdv, ct, osl, rfl, lk, hcd, hD, hK⟩ := F.ex
  rcases hD with ⟨_, rfl⟩ | ⟨e, _⟩
  · rw [hA, hB, hS] at lk
    exact ⟨gC, clsK_ok h1, h2, h3, h4, h5, h6, h7, h8, h9, h10, h11, ns, nd, bnd, qual, oc, od, kV, doc, pm, an, cdv, ct, osl, p1, p2, q1, q2, q3, q4, lk, hcd⟩
  · exact absurd rfl e
/-! ### the hook -/
abbrev AlE : Type := He.AlD × Bool
def obsE (n : Nat) (fa : List He.Fa) (fn : List He.DefD) (ex : PySem.W.Frag → Bool) (g : Addr → Option Obj) : AlE := (He.obsDG n fa fn g, ex (He.frG g (He.asD g n)))
def hookE (n : Nat) (fa : List He.Fa) (fn : List He.DefD) (ex : PySem.W.Frag → Bool) : PySem.W.Hook where
  α := AlE
  obs := fun s => obsE n fa fn ex s.heap.get?
  val := fun _ => (He.valD fn, true)
  says := fun _ h => ∃ K : PySem.W.Frag, K.In h ∧ He.SaysD fa fn K ∧ ex K = true
  of := fun _ _ e => ⟨_, He.frG_in, congrArg (fun z : AlE => z.1) e, congrArg (fun z : AlE => z.2) e⟩
  keeps := fun _ _ _ ⟨K, hK, c⟩ k => ⟨K, PySem.W.Frag.In.keeps hK k, c⟩
theorem obsE_eq {n : Nat} {fa : List He.Fa} {fn : List He.DefD} {ex : PySem.W.Frag → Bool} {g : Addr → Option Obj} {s : Shared} (h : ∀ a, g a = s.heap.get? a) : obsE n fa fn ex g = (hookE n fa fn ex).obs s := by
  have e : g = s.heap.get? := funext h
  rw [e] <;> rfl
end DL

set_option maxRecDepth 100000
set_option autoImplicit false
/-! DL17: small checks for the generator. -/
namespace DL
open PySem PySem.Spec PyProof.Rows L2
def isLC (o : Option NameKind) : Bool := decide (o = some .cell) || decide (o = some .free)
def blkB (N : List Str) (sc scope : Scope) (own : List (Str × Nat)) : Bool :=
  decide (scope.kind = .function) && ((scope.names.all fun y => decide (scope.names.lookup y.1 = some y.2)) && ((own.all fun p => decide (N[p.2]? = some p.1)) &&
    ((scope.names.all fun y => !decide (y.2 = .free) || isLC (sc.names.lookup y.1)) && (scope.names.all fun y => !(decide (y.2 = .local) || decide (y.2 = .cell)) || (decide (y.1 ∈ own.map (·.1)) || !decide (y.1 ∈ N))))))
theorem blk_of {N : List Str} {sc scope : Scope} {own : List (Str × Nat)} (h : blkB N sc scope own = true) : BlkOk N sc scope own := by
  unfold blkB at h
  simp only [Bool.and_eq_true, decide_eq_true_eq, List.all_eq_true] at h
  obtain ⟨h1, h2, h3, h4, h5⟩ := h
  refine ⟨h1, h2, h3, fun y hy e => ?_, fun y hy e => ?_⟩
  · have := h4 y hy
    simp only [isLC, e, decide_true, Bool.not_true, Bool.false_or, Bool.or_eq_true, decide_eq_true_eq] at this
    exact this
  · have := h5 y hy
    have e' : (decide (y.2 = .local) || decide (y.2 = .cell)) = true := by simpa using e
    rw [e', Bool.not_true, Bool.false_or] at this
    simpa using this
theorem tY {X : Cx} {W : WX} {env : EnvD} : PTs X [] (tX X.K W env RT (pure true)) := ⟨fun pins s σ H Q I ⟨g, st, sr, eo, q⟩ => pts_nil.run pins s σ H Q I (Mp.pure q sr rfl)⟩
theorem t1 {X : Cx} {W : WX} {env : EnvD} {c : Expr} {m : M Bool} (h : JT X W env c m) : PTs X [c] (tX X.K W env RT m) := pts_one h
section
variable {X : Cx} {W : WX} {env : EnvD} {e a : Expr} {m : M D} {pos : Pos}
theorem jt_isNone {j pos'} (h : JB X W env a m) : JT X W env (.Compare a [.Is] [.Constant .none j pos'] pos) (m >>= fun d => pure (Op.isNon d)) :=
  PT.imp (pt_cmp (pc_isN h)) fun σ H Q ⟨g, s, sr, eo, q⟩ => tX.bind sr eo q fun d s1 v H1 g1 st sr1 eo1 r q1 => by
    rw [r.isNon]; exact ⟨_, rfl, Mp.pure q1 sr1 rfl⟩
theorem jt_isNotNone {j pos'} (h : JB X W env a m) : JT X W env (.Compare a [.IsNot] [.Constant .none j pos'] pos) (m >>= fun d => pure (!Op.isNon d)) :=
  PT.imp (pt_cmp (pc_notN h)) fun σ H Q ⟨g, s, sr, eo, q⟩ => tX.bind sr eo q fun d s1 v H1 g1 st sr1 eo1 r q1 => by
    rw [r.isNon]; exact ⟨_, rfl, Mp.pure q1 sr1 rfl⟩
def Op.neg : D → M D
  | .int i => pure (.int (-i))
  | _ => M.bad
theorem je_neg (h : JB X W env e m) : JE X W env (.UnaryOp .USub e pos) (m >>= Op.neg) :=
  PE.imp (pe_un un_neg h) fun σ H Q ⟨g, s, sr, eo, q⟩ => tX.bind sr eo q fun d s1 v H1 g1 st sr1 eo1 r q1 => by
    cases d with
    | int i => have := r.int; subst this; exact ⟨i, rfl, Mp.pure q1 sr1 (.int _)⟩
    | _ => exact q1.elim
theorem jt_chain {op op' : CmpOp} {f f' : D → D → M D} {a b c : Expr} {ma mb mc : M D} {pos : Pos} (ho : OpD X (compareOp op) f) (ho' : OpD X (compareOp op') f') (nx : ∀ d e, NoEx (f d e)) (nx' : ∀ d e, NoEx (f' d e)) (ha : JB X W env a ma) (hb : JB X W env b mb) (hc : JB X W env c mc)
    (hm : lastMarks [op, op'] [b, c] = false := by with_unfolding_all rfl) :
    JT X W env (.Compare a [op, op'] [b, c] pos) (ma >>= fun x => mb >>= fun y => f x y >>= fun r => truthB r >>= fun t => if t then mc >>= fun z => f' y z >>= truthB else pure false) :=
  PT.imp (pt_chain ho ho' ha hb hc hm) fun σ H Q ⟨g, s, sr, eo, q⟩ => tX.bind sr eo q fun d s1 v H1 g1 st sr1 eo1 r q1 => tX.bind sr1 eo1 q1 fun d' s2 v' H2 g2 st2 sr2 eo2 r' q2 => by
    refine ⟨g2, s2, d, d', sr2, r.step st2, r', ?_⟩
    refine NoEx.mp (W := fun c dx H' => W c dx σ H') (nx d d') ?_
    refine Res.post.imp (post_bind.mp q2) (fun d3 s3 x w H3 g3 st3 sr3 r3 => ?_) fun _ _ _ x => x
    have x' := Mp.step (m := truthB d3 >>= fun t => if t then mc >>= fun z => f' d' z >>= truthB else pure false) (Rl := RT) x st3
    cases d3 with
    | bl b =>
      cases r3
      refine ⟨b, rfl, ?_⟩
      cases b with
      | true =>
        rw [if_pos rfl]
        refine tX.bind (k := fun z => f' d' z >>= truthB) (Rl' := RT) (Q' := Q) sr3 (eo2.step st3) x' fun d4 s4 v4 H4 g4 st4 sr4 eo4 r4 q4 => ?_
        refine ⟨g4, s4, d', d4, sr4, (r'.step st3).step st4, r4, ?_⟩
        refine NoEx.mp (W := fun c dx H' => W c dx σ H') (nx' d' d4) ?_
        refine Res.post.imp (post_bind.mp q4) (fun d5 s5 x5 w5 H5 g5 st5 sr5 r5 => ?_) fun _ _ _ x => x
        cases d5 with
        | bl b5 => cases r5; exact ⟨b5, rfl, x5 b5 H5 g5 st5 sr5 rfl⟩
        | _ => exact x5.elim
      | false =>
        rw [if_neg Bool.false_ne_true]
        exact ⟨false, rfl, Mp.pure (Rl := RT) x' sr3 rfl⟩
    | _ => exact x.elim
end
theorem exSub_eq {c x : Str} (h : exSub c x = true) (n : (x == ("ConfigError" : Str)) = false) : c = x := by
  unfold exSub at h
  rw [n, Bool.or_false] at h
  simpa using h
def flK {τ α : Type} (k : τ → M α) (r : D → α) : Fl τ → M α
  | .nx t => k t
  | .rt d => pure (r d)
  | .bk _ => M.bad
section
variable {X : Cx} {W : WX} {xe env : EnvD} {α : Type} {dec : α → Flo} {U : TS} {rest : List Stmt}
theorem jc_fl2 {τ : Type} {st : Stmt} {eN : τ → EnvD} {m : M (Fl τ)} {k : τ → M α} {r : D → α} (h1 : J1 X W xe env st m (decF eN)) (hr : ∀ t, JC X W xe (eN t) rest U (k t) dec) (hd : ∀ d, dec (r d) = .rt d ∨ dec (r d) = .fin d) :
    JC X W xe env (st :: rest) U (m >>= flK k r) dec := by
  have e : (m >>= flK k r) = (m >>= fun f => match f with
      | .nx t => k t
      | .rt d => pure (r d)
      | .bk _ => M.bad) := by
    congr 1
  rw [e]
  exact jc_fl h1 hr hd
theorem je_callK0 {k : Nat} {st : Stmt} {ps ks : List Str} {f : List D → M D} {gg : {α : Type} → List α → List α → List α} {x : Str} {p pos : Pos} {kws : List Keyword} {m : M (List D)} (F : DF X.prog X.w X.K X.mg X.base k x st ps f) (hr : Room k X.A) (tk : Takes X W) (hg : Gl X x) (hl : ks.length = ps.length) (kw : Kw ps.length gg)
    (hb : ∀ (kV doc pm : Value) (an : Option Addr) (cdv ct : Value) (ws : List Value), ws.length = ks.length → bindArgs (PySem.W.fnOf x x (defArgs st) (defBody st) (defScope st) .none kV doc pm an cdv ct) ⟨[], ks.zip ws⟩ = pure (ps.zip (gg [] ws)))
    (hkw : JKw X W env kws m) (hzl : kws.length = ks.length) (hall : (backToKw pos (keywordEach kws X.env)).all (·.1.isSome) = true := by rfl) (hks : (backToKw pos (keywordEach kws X.env)).filterMap (·.1) = ks := by rfl)
    (hdb : (x == ("__debug__" : Str)) = false := by decide)
    (hpl : ((backTo pos (starEach [] X.env)).any (·.1) || (backToKw pos (keywordEach kws X.env)).any (·.1.isNone)) = false := by rfl) :
    JE X W env (.Call (.Name x p) [] kws pos) (m >>= fun zs => if zs.length = ks.length then f (gg [] zs) else M.bad) :=
  je_callK F hr tk hg hl kw (fun kV doc pm an cdv ct us ws h1 h2 => by
    have hu : us = [] := List.length_eq_zero_iff.mp (by omega)
    subst hu
    exact hb kV doc pm an cdv ct ws h2) hkw hzl hall hks hdb hpl
end
end DL

set_option maxRecDepth 100000
set_option autoImplicit false
/-! DL18: the head's facts by data, the law's end. -/
namespace DL
open PySem PySem.Spec PyProof.Rows L2
mutual
/-- the very same datum (no dicts, sets, objects) -/
def D.same : D → D → Bool
  | .non, .non => true
  | .bl a, .bl b => a == b
  | .int i, .int j => decide (i = j)
  | .str x, .str y => decide (x = y)
  | .lst xs, .lst ys => D.sameL xs ys
  | .tup xs, .tup ys => D.sameL xs ys
  | _, _ => false
def D.sameL : List D → List D → Bool
  | [], [] => true
  | x :: xs, y :: ys => D.same x y && D.sameL xs ys
  | _, _ => false
end
mutual
theorem same_ok : ∀ (d e : D), D.same d e = true → d = e
  | .non, e, h => by cases e <;> first | rfl | (unfold D.same at h; cases h)
  | .bl a, e, h => by
    cases e <;> unfold D.same at h <;> first | cases h | skip
    rw [beq_iff_eq.mp h]
  | .int a, e, h => by
    cases e <;> unfold D.same at h <;> first | cases h | skip
    rw [of_decide_eq_true h]
  | .str a, e, h => by
    cases e <;> unfold D.same at h <;> first | cases h | skip
    rw [of_decide_eq_true h]
  | .lst xs, e, h => by
    cases e with
    | lst ys => unfold D.same at h; rw [sameL_ok xs ys h]
    | _ => unfold D.same at h; cases h
  | .tup xs, e, h => by
    cases e with
    | tup ys => unfold D.same at h; rw [sameL_ok xs ys h]
    | _ => unfold D.same at h; cases h
  | .dct _, e, h => by cases e <;> unfold D.same at h <;> cases h
  | .set _, e, h => by cases e <;> unfold D.same at h <;> cases h
  | .obj _ _, e, h => by cases e <;> unfold D.same at h <;> cases h
  | .ref _, e, h => by cases e <;> unfold D.same at h <;> cases h
theorem sameL_ok : ∀ (xs ys : List D), D.sameL xs ys = true → xs = ys
  | [], ys, h => by cases ys with
    | nil => rfl
    | cons y ys => unfold D.sameL at h; cases h
  | x :: xs, ys, h => by cases ys with
    | nil => unfold D.sameL at h; cases h
    | cons y ys =>
      unfold D.sameL at h
      obtain ⟨h1, h2⟩ := Bool.and_eq_true_iff.mp h
      rw [same_ok x y h1, sameL_ok xs ys h2]
end
def isG (K : PySem.W.Frag) (x : Str) (d : D) : Bool := match glK K x with
  | some e => D.same e d
  | none => false
theorem isG_ok {K : PySem.W.Frag} {x : Str} {d : D} (h : isG K x d = true) : glK K x = some d := by
  unfold isG at h
  split at h
  · rename_i e he
    rw [he, same_ok _ _ h]
  · cases h
/-- the law, from the mirror's answer -/
theorem sp_law {K : PySem.W.Frag} {m : List D → M D} (hm : ∀ ns : List Int, ns.length ≤ 63 → ∃ s', m [.lst (ns.map D.int)] [] = .ok (.bl true) s') (H : Hp) (a : Addr) (ns : List Int) (hl : ns.length ≤ 63) (hS : SqL K H a (ns.map V.int)) :
    spD K 1 m [.ref a] H (fun v _ => v = .bl true) fun _ _ _ => False := by
  obtain ⟨s', e⟩ := hm ns hl
  refine ⟨⟨H, []⟩, [], [.lst (ns.map D.int)], rfl, ⟨.rfl, rfl, .nil, fun a h => (by cases h), fun n a d h => (by simp at h)⟩, .cons (.lst hS RepL.ofInts) .nil, ?_⟩
  show (m [.lst (ns.map D.int)] []).post _ _
  rw [e]
  intro w H' g' st sr r
  cases r
  rfl
theorem cx_no {P : Program} {w : World} (H : Hp) (s : Shared) (e : Value) (s' : Shared) (h : L2.CX P w [] H s (fun _ _ _ => False) e s') : False := by
  obtain ⟨_, _, _, _, _, _, _, _, _, _, _, _, z⟩ := h
  exact z
/-- any world's CX -/
def CXw (P : Program) : CXT := fun outer H s E u s' => ∃ w, L2.CX P w outer H s E u s'
theorem FnOk.cxw {P : Program} {w : World} {K : PySem.W.Frag} {mg : Str → Option Value} {base : Heap} {k : Nat} {f : Addr} {fd : FuncData} {ps : List Str} {sp : Sp} (F : FnOk P w K mg base (L2.CX P w) k f fd ps sp) : FnOk P w K mg base (CXw P) k f fd ps sp :=
  ⟨F.len, fun A outer s H args us vs Q E hr he hb hv hs => codeAny_mono (F.run A outer s H args us vs Q E hr he hb hv hs) fun r s' h => by
    cases r with
    | error e => exact ⟨w, h⟩
    | ok fl => cases fl <;> exact h⟩
theorem cxw_no {P : Program} (H : Hp) (s : Shared) (e : Value) (s' : Shared) (h : CXw P [] H s (fun _ _ _ => False) e s') : False := by
  obtain ⟨w, h⟩ := h
  exact cx_no H s e s' h
end DL

set_option maxRecDepth 100000
set_option autoImplicit false
/-! DL19: the order of data, sorted. -/
namespace DL
open PySem PySem.Spec PyProof.Rows L2
mutual
def D.toP : D → PyData
  | .non => .none
  | .bl b => .bool b
  | .int i => .int i
  | .str x => .str x
  | .lst xs => .list (D.toPL xs)
  | .tup xs => .tuple (D.toPL xs)
  | _ => .none
def D.toPL : List D → List PyData
  | [] => []
  | x :: xs => D.toP x :: D.toPL xs
end
theorem toPL_map : ∀ xs : List D, D.toPL xs = xs.map D.toP
  | [] => rfl
  | x :: xs => by show D.toP x :: D.toPL xs = _; rw [toPL_map xs]; rfl
theorem toP_depth : ∀ (n : Nat) (d : D), D.lay n d = true → (D.toP d).depth ≤ n := by
  intro n
  induction n with
  | zero =>
    intro d h
    cases d <;> first | exact Nat.le_refl _ | (unfold D.lay at h; cases h)
  | succ n ih =>
    intro d h
    have go : ∀ xs : List D, xs.all (D.lay n) = true → PyData.depthAll (D.toPL xs) ≤ n := by
      intro xs
      induction xs with
      | nil => intro _; exact Nat.zero_le _
      | cons x xs ihx =>
        intro hx
        rw [List.all_cons, Bool.and_eq_true] at hx
        show max (D.toP x).depth (PyData.depthAll (D.toPL xs)) ≤ n
        have := ih x hx.1
        have := ihx hx.2
        omega
    cases d with
    | lst xs => exact Nat.succ_le_succ (go xs h)
    | tup xs => exact Nat.succ_le_succ (go xs h)
    | non => exact Nat.zero_le _
    | bl b => exact Nat.zero_le _
    | int i => exact Nat.zero_le _
    | str x => exact Nat.zero_le _
    | _ => unfold D.lay at h; cases h
section
variable {X : Cx} {pins : List (Addr × Obj)} {σ : SS} {H : Hp} {s : Shared} {fi : List Addr}
theorem reads_of (I : Inv X pins σ H s) : ∀ (n : Nat) (d : D) (v : V) (u : Value), D.lay n d = true → Rep X.K fi H v d → RelV v u → ∃ as, Reads s.heap u (D.toP d) as := by
  intro n
  induction n with
  | zero =>
    intro d v u h r q
    cases r with
    | non => cases q; exact ⟨_, .none⟩
    | bl b => cases q; exact ⟨_, .bool b⟩
    | int i => obtain ⟨t, rfl⟩ := q; exact ⟨_, .int i t⟩
    | str x => obtain ⟨t, rfl⟩ := q; exact ⟨_, .str x t⟩
    | _ => unfold D.lay at h; cases h
  | succ n ih =>
    intro d v u h r q
    have go : ∀ (xs : List D) (vs : List V) (us : List Value), xs.all (D.lay n) = true → RepL X.K fi H vs xs → Vals vs us → ∃ as, ReadsAll s.heap us (D.toPL xs) as := by
      intro xs
      induction xs with
      | nil => intro vs us _ rl va; cases rl; cases va; exact ⟨_, .nil⟩
      | cons x xs ihx =>
        intro vs us hx rl va
        rw [List.all_cons, Bool.and_eq_true] at hx
        cases rl with
        | cons r1 rl =>
          cases va with
          | cons q1 va =>
            obtain ⟨a1, h1⟩ := ih x _ _ hx.1 r1 q1
            obtain ⟨a2, h2⟩ := ihx _ _ hx.2 rl va
            exact ⟨_, .cons h1 h2⟩
    cases r with
    | non => cases q; exact ⟨_, .none⟩
    | bl b => cases q; exact ⟨_, .bool b⟩
    | int i => obtain ⟨t, rfl⟩ := q; exact ⟨_, .int i t⟩
    | str x => obtain ⟨t, rfl⟩ := q; exact ⟨_, .str x t⟩
    | lst hl rl =>
      cases q
      obtain ⟨us, va, ⟨o, m, k1, k2, k3, k4⟩, _⟩ := I.list hl
      obtain ⟨as, ra⟩ := go _ _ us h rl va
      exact ⟨_, .list k1 k2 k4 (by simpa using ra)⟩
    | tup hl rl =>
      cases q
      obtain ⟨us, va, ⟨o, k1, k2, m, k4⟩, _⟩ := I.tuple hl
      obtain ⟨as, ra⟩ := go _ _ us h rl va
      exact ⟨_, .tuple k1 k2 k4 (by simpa using ra)⟩
    | _ => unfold D.lay at h; cases h
end
/-! ### < of data -/
namespace Op
def ordOk (d e : D) : Bool := D.lay 40 d && (D.lay 40 e && (PySem.W.alike (D.toP d) (D.toP e) && !isNon d))
def lt2 (d e : D) : M D := if ordOk d e then pure (.bl (PySem.W.dataLt (D.toP d) (D.toP e))) else M.bad
def gt2 (d e : D) : M D := if ordOk d e then pure (.bl (PySem.W.dataLt (D.toP e) (D.toP d))) else M.bad
def le2 (d e : D) : M D := if ordOk d e then pure (.bl (!PySem.W.dataLt (D.toP e) (D.toP d))) else M.bad
def ge2 (d e : D) : M D := if ordOk d e then pure (.bl (!PySem.W.dataLt (D.toP d) (D.toP e))) else M.bad
end Op
theorem nx_lt2 (d e : D) : NoEx (Op.lt2 d e) := noEx_ite (noEx_pure _) noEx_bad
theorem nx_gt2 (d e : D) : NoEx (Op.gt2 d e) := noEx_ite (noEx_pure _) noEx_bad
theorem nx_le2 (d e : D) : NoEx (Op.le2 d e) := noEx_ite (noEx_pure _) noEx_bad
theorem nx_ge2 (d e : D) : NoEx (Op.ge2 d e) := noEx_ite (noEx_pure _) noEx_bad
section
variable {X : Cx}
theorem toP_non {d : D} (h : D.lay 40 d = true) (n : Op.isNon d = false) : D.toP d ≠ .none := by
  cases d <;> first | (intro z; cases z; done) | (cases n; done) | (unfold D.lay at h; cases h)
theorem ord_of {pins : List (Addr × Obj)} {σ : SS} {H : Hp} {s : Shared} {g : Gh} {st : Sto} {x y : V} {v u : Value} {d e : D} (hu : X.A.units + 64 < cLine) (I : Inv X pins σ H s) (rx : RelV x v) (ry : RelV y u) (sr : SR X.K H g st) (bx : Bor X.K g H x d) (by_ : Bor X.K g H y e) (h : Op.ordOk d e = true) :
    ∃ as bs, Reads s.heap v (D.toP d) as ∧ Reads s.heap u (D.toP e) bs ∧ PySem.W.alike (D.toP d) (D.toP e) = true ∧ D.toP d ≠ .none ∧ X.A.units + min (D.toP d).depth (D.toP e).depth < cLine := by
  unfold Op.ordOk at h
  simp only [Bool.and_eq_true, Bool.not_eq_true'] at h
  obtain ⟨as, h1⟩ := reads_of I 40 d x v h.1 (bx.rd sr) rx
  obtain ⟨bs, h2⟩ := reads_of I 40 e y u h.2.1 (by_.rd sr) ry
  have := toP_depth 40 d h.1
  exact ⟨as, bs, h1, h2, h.2.2.1, toP_non h.1 h.2.2.2, by omega⟩
theorem od_lt2 (hu : X.A.units + 64 < cLine) : OpD X (compareOp .Lt) Op.lt2 := by
  intro pins s σ H x y v u Q I rx ry ⟨g, st, d, e, sr, bx, by_, q⟩
  obtain ⟨c, q⟩ := Mp.ite q
  obtain ⟨as, bs, h1, h2, h3, h4, h5⟩ := ord_of hu I rx ry sr bx by_ c
  exact PySem.W.lt_data h1 h2 h3 h4 h5 ⟨.bl _, H, I, rfl, Mp.pure (Rl := RS X.K) q sr (.bl _)⟩
theorem od_gt2 (hu : X.A.units + 64 < cLine) : OpD X (compareOp .Gt) Op.gt2 := by
  intro pins s σ H x y v u Q I rx ry ⟨g, st, d, e, sr, bx, by_, q⟩
  obtain ⟨c, q⟩ := Mp.ite q
  obtain ⟨as, bs, h1, h2, h3, h4, h5⟩ := ord_of hu I rx ry sr bx by_ c
  exact PySem.W.gt_data h1 h2 h3 h4 h5 ⟨.bl _, H, I, rfl, Mp.pure (Rl := RS X.K) q sr (.bl _)⟩
theorem od_le2 (hu : X.A.units + 64 < cLine) : OpD X (compareOp .LtE) Op.le2 := by
  intro pins s σ H x y v u Q I rx ry ⟨g, st, d, e, sr, bx, by_, q⟩
  obtain ⟨c, q⟩ := Mp.ite q
  obtain ⟨as, bs, h1, h2, h3, h4, h5⟩ := ord_of hu I rx ry sr bx by_ c
  exact PySem.W.le_data h1 h2 h3 h4 h5 ⟨.bl _, H, I, rfl, Mp.pure (Rl := RS X.K) q sr (.bl _)⟩
theorem od_ge2 (hu : X.A.units + 64 < cLine) : OpD X (compareOp .GtE) Op.ge2 := by
  intro pins s σ H x y v u Q I rx ry ⟨g, st, d, e, sr, bx, by_, q⟩
  obtain ⟨c, q⟩ := Mp.ite q
  obtain ⟨as, bs, h1, h2, h3, h4, h5⟩ := ord_of hu I rx ry sr bx by_ c
  exact PySem.W.ge_data h1 h2 h3 h4 h5 ⟨.bl _, H, I, rfl, Mp.pure (Rl := RS X.K) q sr (.bl _)⟩
end
/-! ### sorted(xs) -/
def sortOk (xs : List D) : Bool := (xs.all (D.lay 40) && (xs.all fun x => xs.all fun y => PySem.W.alike (D.toP x) (D.toP y))) &&
  ((xs.all fun x => match x with | .tup (_ :: _) => true | _ => false) || (xs.all fun x => match x with | .non => false | .tup _ => false | _ => true))
def sortD (xs : List D) : List D := xs.mergeSort (PySem.W.dataLe false D.toP)
def Bi.sorted : List D → M D
  | [.lst xs] => if sortOk xs then pure (.lst (sortD xs)) else M.bad
  | _ => M.bad
theorem nx_sorted (ds : List D) : NoEx (Bi.sorted ds) := by unfold Bi.sorted; split <;> first | exact noEx_ite (noEx_pure _) noEx_bad | exact noEx_bad
section
variable {X : Cx} {pins : List (Addr × Obj)} {σ : SS} {H : Hp} {s : Shared} {fi : List Addr}
/-- a value's standing for d, all in one -/
def Std (X : Cx) (fi : List Addr) (H : Hp) (s : Shared) (hb : Hp) (u : Value) (d : D) : Prop := ∃ v, RelV v u ∧ Rep X.K fi hb v d
theorem each_std {hb : Hp} : ∀ {vs : List V} {us : List Value} {ds : List D}, Vals vs us → RepL X.K fi hb vs ds → PySem.W.EachIs (Std X fi H s hb) us ds
  | _, _, _, .nil, .nil => .nil
  | _, _, _, .cons q va, .cons r rl => .cons ⟨_, q, r⟩ (each_std va rl)
theorem std_back {hb : Hp} : ∀ {us : List Value} {ds : List D}, PySem.W.EachIs (Std X fi H s hb) us ds → ∃ vs, Vals vs us ∧ RepL X.K fi hb vs ds
  | _, _, .nil => ⟨[], .nil, .nil⟩
  | _, _, .cons ⟨v, q, r⟩ e =>
    let ⟨vs, va, rl⟩ := std_back e
    ⟨v :: vs, .cons q va, .cons r rl⟩
theorem each_reads (I : Inv X pins σ H s) {hb : Hp} (sb : Sub hb H) : ∀ {us : List Value} {ds : List D}, ds.all (D.lay 40) = true → PySem.W.EachIs (Std X fi H s hb) us ds → PySem.W.EachIs (fun v b => ∃ as, Reads s.heap v (D.toP b) as) us ds
  | _, _, _, .nil => .nil
  | _, _, h, .cons ⟨v, q, r⟩ e => by
    rw [List.all_cons, Bool.and_eq_true] at h
    exact .cons (reads_of I 40 _ v _ h.1 (r.mono sb .rfl) q) (each_reads I sb h.2 e)
end
theorem cd_sorted {X : Cx} (hu : X.A.units + 64 < cLine) : CallD X (.builtin "sorted") Bi.sorted := by
  intro pins s σ H vs us Q I r ⟨g, st, ds, sr, bs, q⟩
  unfold Bi.sorted at q
  split at q
  · rename_i xs
    obtain ⟨c, q⟩ := Mp.ite q
    obtain ⟨v, rfl, bv⟩ := BorL.oneD bs
    obtain ⟨a, ws, rfl, hl, rl⟩ := bv.lst sr
    obtain ⟨its, va, pl, hz⟩ := I.list hl
    rw [Vals.ref1 r]
    unfold sortOk at c
    simp only [Bool.and_eq_true, Bool.or_eq_true] at c
    have e0 : PySem.W.EachIs (Std X g.fi H s g.hb) its xs := each_std va rl
    have hal : PySem.W.AllAlike (xs.map D.toP) := fun d hd d' hd' => by
      obtain ⟨x, hx, rfl⟩ := List.mem_map.mp hd
      obtain ⟨y, hy, rfl⟩ := List.mem_map.mp hd'
      exact List.all_eq_true.mp (List.all_eq_true.mp c.1.2 x hx) y hy
    have hk : PySem.W.Sortable (xs.map D.toP) := by
      rcases c.2 with h | h
      · refine .inl fun d hd => ?_
        obtain ⟨x, hx, rfl⟩ := List.mem_map.mp hd
        have := List.all_eq_true.mp h x hx
        split at this
        · exact ⟨_, _, rfl⟩
        · cases this
      · refine .inr fun d hd => ?_
        obtain ⟨x, hx, rfl⟩ := List.mem_map.mp hd
        have h1 := List.all_eq_true.mp h x hx
        have h2 := List.all_eq_true.mp c.1.1 x hx
        cases x <;> first | (cases h1; done) | (unfold D.lay at h2; cases h2; done) | (refine ⟨?_, ?_⟩ <;> intros <;> intro z <;> cases z)
    refine PySem.W.sorted_data (enc := D.toP) pl.isList e0 (each_reads I sr.sub c.1.1 e0) hal hk (by rw [← rl.length]; exact hz) (fun b hb => by have := toP_depth 40 b (List.all_eq_true.mp c.1.1 b hb); omega) fun out hlen eo => ?_
    obtain ⟨vs', va', rl'⟩ := std_back eo
    obtain ⟨ep, he'⟩ := PyProof.Rows.sortedAll_at s.heap its out.toArray
    have hz' : vs'.length ≤ sizeLine := by rw [va'.length, hlen, ← rl.length]; exact hz
    exact ⟨.ref _, upd H (s.heap.objs.size + 1) (.lst vs'), I.laid (t' := s.toks) (fun _ _ => PyProof.Rows.sortedAll_old) (Nat.le_succ _) ⟨hz', out, ep, va', he'⟩, rfl, Mp.newL q sr rl' (I.hok.fresh (Nat.le_succ _))⟩
  · exact q.elim
end DL

set_option maxRecDepth 100000
set_option autoImplicit false
/-! DL20: bits, zip, enumerate, own lists written by place. -/
namespace DL
open PySem PySem.Spec PyProof.Rows L2
namespace Op
def band : D → D → M D
  | .int i, .int j => pure (.int (Builtin.bitAnd i j))
  | _, _ => M.bad
def bor : D → D → M D
  | .int i, .int j => pure (.int (Builtin.bitOr i j))
  | _, _ => M.bad
def bxor : D → D → M D
  | .int i, .int j => pure (.int (Builtin.bitXor i j))
  | _, _ => M.bad
def shr : D → D → M D
  | .int i, .int j => if decide (0 ≤ j) then pure (.int (i / 2 ^ j.toNat)) else M.bad
  | _, _ => M.bad
/-- 1 << k, small -/
def shl : D → D → M D
  | .int i, .int j => if decide (i = 1 ∧ 0 ≤ j ∧ j ≤ 100000) then pure (.int (2 ^ j.toNat)) else M.bad
  | _, _ => M.bad
end Op
theorem nx_band (d e : D) : NoEx (Op.band d e) := by unfold Op.band; split; exact noEx_pure _; exact noEx_bad
theorem nx_bor (d e : D) : NoEx (Op.bor d e) := by unfold Op.bor; split; exact noEx_pure _; exact noEx_bad
theorem nx_bxor (d e : D) : NoEx (Op.bxor d e) := by unfold Op.bxor; split; exact noEx_pure _; exact noEx_bad
theorem nx_shr (d e : D) : NoEx (Op.shr d e) := by unfold Op.shr; split; exact noEx_ite (noEx_pure _) noEx_bad; exact noEx_bad
theorem nx_shl (d e : D) : NoEx (Op.shl d e) := by unfold Op.shl; split; exact noEx_ite (noEx_pure _) noEx_bad; exact noEx_bad
section
variable {X : Cx}
theorem od_band : OpD X (binaryOp .BitAnd) Op.band := int2 op_and (fun d e => by unfold Op.band; split <;> simp) fun i j H gh s Q sr q => ⟨_, _, rfl, rfl, Mp.pure q sr (.int _)⟩
theorem od_bor : OpD X (binaryOp .BitOr) Op.bor := int2 op_or (fun d e => by unfold Op.bor; split <;> simp) fun i j H gh s Q sr q => ⟨_, _, rfl, rfl, Mp.pure q sr (.int _)⟩
theorem od_bxor : OpD X (binaryOp .BitXor) Op.bxor := int2 op_xor (fun d e => by unfold Op.bxor; split <;> simp) fun i j H gh s Q sr q => ⟨_, _, rfl, rfl, Mp.pure q sr (.int _)⟩
theorem od_shr : OpD X (binaryOp .RShift) Op.shr := int2 op_shr (fun d e => by unfold Op.shr; split <;> simp) fun i j H gh s Q sr q => by
  obtain ⟨c, q⟩ := Mp.ite q
  exact ⟨_, _, rfl, rfl, of_decide_eq_true c, Mp.pure (Rl := RS X.K) q sr (.int _)⟩
theorem od_shl : OpD X (binaryOp .LShift) Op.shl := int2 op_oneShl (fun d e => by unfold Op.shl; split <;> simp) fun i j H gh s Q sr q => by
  obtain ⟨c, q1⟩ := Mp.ite q
  obtain ⟨h0, h1, h2⟩ := of_decide_eq_true c
  exact ⟨j.toNat, by rw [h0], by rw [Int.toNat_of_nonneg h1], by omega, Mp.pure (Rl := RS X.K) q1 sr (.int _)⟩
end
/-! ### zip, enumerate -/
def pairD (x y : D) : D := .tup [x, y]
section
variable {K : PySem.W.Frag} {g : Gh}
/-- a new pair is yielded -/
theorem yld_pair {H' : Hp} {g' : Gh} {T : Addr} {x y : V} {d e : D} (sb : Sub g'.hb H') (hT : H' T = none) (r1 : Rep K g'.fi g'.hb x d) (r2 : Rep K g'.fi g'.hb y e) : ∃ g'', Step H' g' (upd H' T (.tup [x, y])) g'' ∧ (∀ s, SR K H' g' s → SR K (upd H' T (.tup [x, y])) g'' s) ∧ Rep K g''.fi g''.hb (.ref T) (pairD d e) := by
  have st : Step H' g' (upd H' T (.tup [x, y])) ⟨upd g'.hb T (.tup [x, y]), g'.fi⟩ := Step.new sb hT
  exact ⟨_, st, fun s sr => sr.new hT, .tup (.inl (.inl upd_same)) (.cons (r1.mono st.hb st.fi) (.cons (r2.mono st.hb st.fi) .nil))⟩
theorem walks_zipL {a b : Addr} {vs ws : List V} {ds es : List D} (h : SqL K g.hb a vs) (h2 : SqL K g.hb b ws) (r : RepL K g.fi g.hb vs ds) (r2 : RepL K g.fi g.hb ws es) : Walks K g (Itz K a b) (List.zipWith pairD ds es) := fun H' g' hb fi sb => by
  have hs : SqL K H' a vs := SqL.sub h (hb.trans sb)
  have hs2 : SqL K H' b ws := SqL.sub h2 (hb.trans sb)
  refine ⟨fun i d e => ?_, fun i hi => ⟨vs, ws, hs, hs2, by rw [r.length, r2.length]; rw [List.length_zipWith] at hi; omega⟩⟩
  obtain ⟨d1, d2, e1, e2, rfl⟩ := List.getElem?_zipWith_eq_some.mp e
  obtain ⟨v, f1, p1⟩ := r.get e1
  obtain ⟨w, f2, p2⟩ := r2.get e2
  refine ⟨⟨vs, ws, v, w, hs, hs2, f1, f2⟩, fun x H'' y => ?_⟩
  obtain ⟨T, x1, y1, rfl, hT, rfl, y2, y3⟩ := y
  have := y2 vs hs; rw [f1] at this; cases this
  have := y3 ws hs2; rw [f2] at this; cases this
  exact yld_pair sb hT (p1.mono hb fi) (p2.mono hb fi)
theorem walks_zipT {a b : Addr} {vs ws : List V} {ds es : List D} (h : SqT K g.hb a vs) (h2 : SqT K g.hb b ws) (r : RepL K g.fi g.hb vs ds) (r2 : RepL K g.fi g.hb ws es) : Walks K g (RZ.ItzT K a b) (List.zipWith pairD ds es) := fun H' g' hb fi sb => by
  have hs : SqT K H' a vs := SqT.sub h (hb.trans sb)
  have hs2 : SqT K H' b ws := SqT.sub h2 (hb.trans sb)
  refine ⟨fun i d e => ?_, fun i hi => ⟨vs, ws, hs, hs2, by rw [r.length, r2.length]; rw [List.length_zipWith] at hi; omega⟩⟩
  obtain ⟨d1, d2, e1, e2, rfl⟩ := List.getElem?_zipWith_eq_some.mp e
  obtain ⟨v, f1, p1⟩ := r.get e1
  obtain ⟨w, f2, p2⟩ := r2.get e2
  refine ⟨⟨vs, ws, v, w, hs, hs2, f1, f2⟩, fun x H'' y => ?_⟩
  obtain ⟨T, x1, y1, rfl, hT, rfl, y2, y3⟩ := y
  have := y2 vs hs; rw [f1] at this; cases this
  have := y3 ws hs2; rw [f2] at this; cases this
  exact yld_pair sb hT (p1.mono hb fi) (p2.mono hb fi)
def numbered : Nat → List D → List D
  | _, [] => []
  | i, x :: xs => pairD (.int (i : Nat)) x :: numbered (i + 1) xs
theorem numbered_get : ∀ (xs : List D) (k i : Nat), (numbered k xs)[i]? = (xs[i]?).map (pairD (.int ((k + i : Nat) : Int)))
  | [], _, _ => by simp [numbered]
  | x :: xs, k, 0 => by simp [numbered]
  | x :: xs, k, i + 1 => by
    simp only [numbered, List.getElem?_cons_succ]
    rw [numbered_get xs (k + 1) i, show k + 1 + i = k + (i + 1) by omega]
theorem numbered_len : ∀ (xs : List D) (k : Nat), (numbered k xs).length = xs.length
  | [], _ => rfl
  | _ :: xs, k => by simp [numbered, numbered_len xs (k + 1)]
theorem walks_enum {a : Addr} {vs : List V} {ds : List D} (h : SqL K g.hb a vs) (r : RepL K g.fi g.hb vs ds) : Walks K g (Ite K a) (numbered 0 ds) := fun H' g' hb fi sb => by
  have hs : SqL K H' a vs := SqL.sub h (hb.trans sb)
  refine ⟨fun i d e => ?_, fun i hi => ⟨vs, hs, by rw [r.length]; rw [numbered_len] at hi; exact hi⟩⟩
  rw [numbered_get] at e
  cases e1 : ds[i]? with
  | none => rw [e1] at e; cases e
  | some d1 =>
    rw [e1] at e
    cases e
    obtain ⟨v, f1, p1⟩ := r.get e1
    refine ⟨⟨vs, v, hs, f1⟩, fun x H'' y => ?_⟩
    obtain ⟨T, x1, rfl, hT, rfl, y2⟩ := y
    have := y2 vs hs; rw [f1] at this; cases this
    rw [Nat.zero_add]
    exact yld_pair sb hT (.int _) (p1.mono hb fi)
end
def zipD : List D → M (List D)
  | [.lst xs, .lst ys] => pure (List.zipWith pairD xs ys)
  | [.tup xs, .tup ys] => pure (List.zipWith pairD xs ys)
  | _ => M.bad
def enumD : List D → M (List D)
  | [.lst xs] => pure (numbered 0 xs)
  | _ => M.bad
section
variable {X : Cx} {W : WX} {env : EnvD}
theorem ji_zip {e e2 : Expr} {p pos tpos : Pos} {elts : List Expr} {kk : Nat} {m : M (List D)} (hg : Gl X "zip") (hm : X.mg "zip" = none) (ha : JA X W env [e, e2] m)
    (hs : starEach [e, e2] X.env = (false, eval e X.env) :: starEach [e2] X.env := by rfl) (hpl : (backTo pos (starEach [e2] X.env)).any (·.1) = false := by rfl) : JI X W env (.Tuple elts kk tpos) (.Call (.Name "zip" p) [e, e2] [] pos) (m >>= zipD) := by
  refine PI.imp (RZ.pi_zipA hg hm ha hs hpl) fun σ H R ⟨g, s, sr, eo, q⟩ => tX.mk sr eo (Res.post.imp (post_bind.mp q) (fun ds s1 x v H1 g1 st sr1 eo1 r => ?_) fun _ _ _ x => x)
  unfold zipD at x
  split at x
  · cases r with
    | cons r1 r => cases r with
      | cons r2 r =>
        cases r
        cases r1 with
        | lst h1 l1 => cases r2 with
          | lst h2 l2 => exact ⟨_, _, _, _, rfl, .inl ⟨SqL.sub h1 sr1.sub, SqL.sub h2 sr1.sub, x H1 g1 _ st sr1 (walks_zipL h1 h2 l1 l2)⟩⟩
  · cases r with
    | cons r1 r => cases r with
      | cons r2 r =>
        cases r
        cases r1 with
        | tup h1 l1 => cases r2 with
          | tup h2 l2 => exact ⟨_, _, _, _, rfl, .inr ⟨SqT.sub h1 sr1.sub, SqT.sub h2 sr1.sub, x H1 g1 _ st sr1 (walks_zipT h1 h2 l1 l2)⟩⟩
  · exact x.elim
theorem ji_enum {e : Expr} {p pos tpos : Pos} {elts : List Expr} {kk : Nat} {m : M (List D)} (hg : Gl X "enumerate") (hm : X.mg "enumerate" = none) (ha : JA X W env [e] m) (hs : starEach [e] X.env = [(false, eval e X.env)] := by rfl) : JI X W env (.Tuple elts kk tpos) (.Call (.Name "enumerate" p) [e] [] pos) (m >>= enumD) := by
  refine PI.imp (pi_enum hg hm ha hs) fun σ H R ⟨g, s, sr, eo, q⟩ => tX.mk sr eo (Res.post.imp (post_bind.mp q) (fun ds s1 x v H1 g1 st sr1 eo1 r => ?_) fun _ _ _ x => x)
  unfold enumD at x
  split at x
  · cases r with
    | cons r1 r =>
      cases r
      cases r1 with
      | lst h1 l1 => exact ⟨_, _, rfl, SqL.sub h1 sr1.sub, x H1 g1 _ st sr1 (walks_enum h1 l1)⟩
  · exact x.elim
end
/-! ### own list x: x[i] = e -/
def Op.place (n : Nat) : D → M Nat
  | .int k => (match ixN n k with
    | some j => pure j
    | none => M.bad)
  | _ => M.bad
section
variable {X : Cx} {W : WX} {xe env : EnvD} {α : Type} {dec : α → Flo} {U : TS} {rest : List Stmt} {e : Expr} {pos : Pos}
theorem jc_setIx (i : Nat) {x : Str} {p tpos : Pos} {ix : Expr} {m mi : M D} {k : D → Nat → M α} {xs : List D} (w : Weak xe env) (h : JE X W env e m) (hi : JE X W env ix mi) (hr : ∀ v j, JC X W xe (env.set i (some (.own (.lst (xs.set j v))))) rest U (k v j) dec) (he : env[i]? = some (some (.own (.lst xs))) := by rfl) (hN : X.N[i]? = some x := by rfl) (hv : Vis X.env.scope x := by first | exact Or.inl rfl | exact Or.inr (Or.inl rfl) | exact Or.inr (Or.inr rfl))
    (hd : (x == ("__debug__" : Str)) = false := by decide) (hcd : (x == ("__classdict__" : Str)) = false := by decide)
    (ha : ∀ v, assign (.Subscript (.Name x p) ix tpos) X.env v = (do
      let ov ← holding [v] (eval (.Name x p) X.env)
      let iv ← holding [v, ov] (eval ix X.env)
      standAt tpos
      holding [v, ov, iv] (setItem ov iv v)
      release [v, ov, iv] []) := by intro _; rfl)
    (hs : swapsWithSole [.Subscript (.Name x p) ix tpos] e pos.line X.env = pure false := by rfl) (hw : swappedStores [.Subscript (.Name x p) ix tpos] e X.env = pure none := by rfl)
    (h1 : (assignEach [.Subscript (.Name x p) ix tpos] X.env).map (·.2) = [assign (.Subscript (.Name x p) ix tpos) X.env] := by rfl) :
    JC X W xe env (.Assign [.Subscript (.Name x p) ix tpos] e pos :: rest) U (m >>= fun v => mi >>= fun d => Op.place xs.length d >>= fun j => k v j) dec :=
  PSs.step (ps_asg h (pg_sub (pe_var hN hv hd hcd) hi set_list ha) hs hw h1) (nexts_run (δ := D × Nat) (f := fun q => env.set i (some (.own (.lst (xs.set q.2 q.1))))) (k := fun q => k q.1 q.2) fun q => hr q.1 q.2) fun D1 σ H ⟨Dn, e1, H0, g0, gg, s, st0, sr, eo, fr, q⟩ => by
    refine tS.expr (Rl := RS X.K) w st0 sr eo fr q fun v s1 vv H1 g1 st1 sr1 eo1 rv q1 => ?_
    obtain ⟨a, z1, _⟩ := eo1.own i _ he
    refine ⟨.ref a, z1, ?_⟩
    refine tS.expr (Rl := RS X.K) w (st0.trans st1) sr1 eo1 fr q1 fun d s2 dv H2 g2 st2 sr2 eo2 rd q2 => ?_
    have q3 := post_bind.mp q2
    have q4 : (Op.place xs.length d s2).post _ _ := q3
    cases d with
    | int kk =>
      cases hj : ixN xs.length kk with
      | none =>
        have z : Op.place xs.length (.int kk) = M.bad := by unfold Op.place; simp only [hj]
        rw [z] at q4
        exact q4.elim
      | some j =>
        have z : Op.place xs.length (.int kk) = pure j := by unfold Op.place; simp only [hj]
        rw [z] at q4
        cases rd
        obtain ⟨a', z2, ⟨vs, hH, rl⟩, nb, nf⟩ := eo2.own i _ he
        rw [z1] at z2
        cases z2
        obtain ⟨c1, c2, c3, c4⟩ := own_upd (o := .lst (vs.set j vv)) (d' := .lst (xs.set j v)) ((st0.trans st1).trans st2) sr2 eo2 fr he z1 fun H' z => ⟨_, z, rl.set (rv.mono st2.hb st2.fi) j⟩
        exact ⟨a, vs, kk, j, rfl, rfl, hH, by rw [rl.length]; exact hj, (v, j), Dn, e1, H0, g0, g2, s2, c1, c2, c3, c4, q4⟩
    | _ => exact q4.elim
end
end DL

set_option maxRecDepth 100000
set_option autoImplicit false
/-! DL21: instances: attributes, self.f = e, C(..). -/
namespace DL
open PySem PySem.Spec PyProof.Rows L2
mutual
/-- no shared cell in it -/
def D.noRef : D → Bool
  | .ref _ => false
  | .lst xs => D.noRefL xs
  | .tup xs => D.noRefL xs
  | .set xs => D.noRefL xs
  | .dct es => D.noRefK es
  | .obj _ es => D.noRefF es
  | _ => true
def D.noRefL : List D → Bool
  | [] => true
  | x :: xs => D.noRef x && D.noRefL xs
def D.noRefK : List (D × D) → Bool
  | [] => true
  | (x, y) :: xs => D.noRef x && (D.noRef y && D.noRefK xs)
def D.noRefF : List (Str × D) → Bool
  | [] => true
  | (_, y) :: xs => D.noRef y && D.noRefF xs
end
section
variable {K : PySem.W.Frag} {fi fi' : List Addr} {hb : Hp}
mutual
/-- what has no cells stands for the same whatever the cells are -/
theorem Rep.cells {v : V} {d : D} : Rep K fi hb v d → D.noRef d = true → Rep K fi' hb v d
  | .non, _ => .non
  | .bl b, _ => .bl b
  | .int i, _ => .int i
  | .str x, _ => .str x
  | .lst h r, n => .lst h (RepL.cells r (by unfold D.noRef at n; exact n))
  | .tup h r, n => .tup h (RepL.cells r (by unfold D.noRef at n; exact n))
  | .dct h r, n => .dct h (RepK.cells r (by unfold D.noRef at n; exact n))
  | .obj h r, n => .obj h (RepF.cells r (by unfold D.noRef at n; exact n))
  | .ref h, n => by unfold D.noRef at n; cases n
theorem RepL.cells {vs : List V} {ds : List D} : RepL K fi hb vs ds → D.noRefL ds = true → RepL K fi' hb vs ds
  | .nil, _ => .nil
  | .cons h r, n => by
    unfold D.noRefL at n
    rw [Bool.and_eq_true] at n
    exact .cons (Rep.cells h n.1) (RepL.cells r n.2)
theorem RepK.cells {vs : List (Key × V)} {ds : List (D × D)} : RepK K fi hb vs ds → D.noRefK ds = true → RepK K fi' hb vs ds
  | .nil, _ => .nil
  | .cons h1 h2 r, n => by
    unfold D.noRefK at n
    rw [Bool.and_eq_true, Bool.and_eq_true] at n
    exact .cons (Rep.cells h1 n.1) (Rep.cells h2 n.2.1) (RepK.cells r n.2.2)
theorem RepF.cells {vs : List (Str × V)} {ds : List (Str × D)} : RepF K fi hb vs ds → D.noRefF ds = true → RepF K fi' hb vs ds
  | .nil, _ => .nil
  | .cons h r, n => by
    unfold D.noRefF at n
    rw [Bool.and_eq_true] at n
    exact .cons (Rep.cells h n.1) (RepF.cells r n.2)
end
theorem Own.cells {H : Hp} {a : Addr} {d : D} (o : Own K fi hb H a d) (n : D.noRef d = true) : Own K fi' hb H a d := by
  cases d with
  | lst ds => obtain ⟨vs, h, r⟩ := o; exact ⟨vs, h, r.cells (by unfold D.noRef at n; exact n)⟩
  | dct es => obtain ⟨vs, h, r⟩ := o; exact ⟨vs, h, r.cells (by unfold D.noRef at n; exact n)⟩
  | obj c es => obtain ⟨dx, vs, h, r⟩ := o; exact ⟨dx, vs, h, r.cells (by unfold D.noRef at n; exact n)⟩
  | _ => exact o.elim
theorem RepF.look : ∀ {vs : List (Str × V)} {es : List (Str × D)} {f : Str} {d : D}, RepF K fi hb vs es → es.lookup f = some d → ∃ v, vs.lookup f = some v ∧ Rep K fi hb v d
  | _, _, f, d, .nil, h => by cases h
  | _, _, f, d, .cons (x := x) r rr, h => by
    simp only [List.lookup] at h ⊢
    split at h
    · cases h; exact ⟨_, rfl, r⟩
    · exact RepF.look rr h
end
namespace Op
/-- the instance that d is, or that stands in its cell -/
def objAt (d : D) (s : Sto) : Option (Str × List (Str × D)) := match d with
  | .obj c es => some (c, es)
  | .ref n => (match s[n]? with
    | some (.obj c es) => some (c, es)
    | _ => none)
  | _ => none
/-- o.f, of the class c -/
def attr (c f : Str) (d : D) : M D := fun s => match objAt d s with
  | some (c', es) => if c' = c then (match es.lookup f with
    | some x => .ok x s
    | none => .bad) else .bad
  | none => .bad
/-- fields with one more -/
def putFD (f : Str) (v : D) : List (Str × D) → List (Str × D)
  | [] => [(f, v)]
  | (g, x) :: r => if g = f then (g, v) :: r else (g, x) :: putFD f v r
/-- o.f = v, o in a cell -/
def setAttr (c f : Str) (d v : D) : M Unit := fun s => match d with
  | .ref n => (match s[n]? with
    | some (.obj c' es) => if c' = c ∧ es.length < 1000 then .ok () (s.set n (.obj c (putFD f v es))) else .bad
    | _ => .bad)
  | _ => .bad
end Op
theorem nx_attr (c f : Str) (d : D) : NoEx (Op.attr c f d) := fun s c x s' h => by
  unfold Op.attr at h
  split at h
  · split at h
    · split at h <;> cases h
    · cases h
  · cases h
/-- the class's attributes are plain -/
structure ClsD (K : PySem.W.Frag) (c f : Str) : Prop where
  cls : L2.Cls K (He.ga K c)
  no : L2.NoAttr K (He.ga K c) f
section
variable {K : PySem.W.Frag} {H : Hp} {g : Gh} {s : Sto}
/-- where the instance stands -/
theorem Bor.objAt {v : V} {d : D} {c : Str} {es : List (Str × D)} (b : Bor K g H v d) (sr : SR K H g s) (h : Op.objAt d s = some (c, es)) : ∃ a dx fs, v = .ref a ∧ H a = some (.ins (He.ga K c) dx fs) ∧ RepF K g.fi g.hb fs es := by
  unfold Op.objAt at h
  split at h
  · cases h
    rcases b with r | ⟨a, rfl, ⟨dx, fs, h1, r⟩, _, _⟩
    · cases r with
      | obj h1 r => exact ⟨_, _, _, rfl, sr.sub _ _ h1, r⟩
    · exact ⟨a, dx, fs, rfl, h1, r⟩
  · rename_i n
    split at h
    · rename_i c' es' hc
      cases h
      rcases b with r | ⟨a, rfl, o, _, _⟩
      · cases r with
        | ref hf =>
          obtain ⟨dx, fs, h1, r⟩ := sr.cell _ _ _ hf hc
          exact ⟨_, dx, fs, rfl, h1, r⟩
      · exact o.elim
    · cases h
  · cases h
theorem RepF.put {f : Str} {v : V} {d : D} {fi : List Addr} {hb : Hp} (r : Rep K fi hb v d) : ∀ {vs : List (Str × V)} {es : List (Str × D)}, RepF K fi hb vs es → RepF K fi hb (L2.putF f v vs) (Op.putFD f d es)
  | _, _, .nil => .cons r .nil
  | _, _, .cons (x := x) h rr => by
    unfold L2.putF Op.putFD
    split
    · exact .cons r rr
    · exact .cons h (RepF.put r rr)
theorem RepF.length : ∀ {fi : List Addr} {hb : Hp} {vs : List (Str × V)} {es : List (Str × D)}, RepF K fi hb vs es → vs.length = es.length
  | _, _, _, _, .nil => rfl
  | _, _, _, _, .cons _ r => by simp [RepF.length r]
end
section
variable {X : Cx} {W : WX} {env : EnvD}
theorem je_attr {c : Str} {e : Expr} {f : Str} {pos : Pos} {m : M D} (hc : ClsD X.K c f) (hm : JB X W env e m) (hb : attributeBase e f X.env (eval e X.env) = eval e X.env := by rfl) : JE X W env (.Attribute e f pos) (m >>= Op.attr c f) := by
  refine PE.imp (pe_fld hm hb) fun σ H Q ⟨g, s, sr, eo, q⟩ => tX.mk sr eo (Res.post.imp (post_bind.mp q) (fun d s1 x v H1 g1 st sr1 eo1 r => ?_) fun _ _ _ x => x)
  have x' : (Op.attr c f d s1).post _ _ := x
  unfold Op.attr at x'
  cases ho : Op.objAt d s1 with
  | none => rw [ho] at x'; exact x'.elim
  | some p =>
    obtain ⟨c', es⟩ := p
    rw [ho] at x'
    dsimp only at x'
    split at x'
    · rename_i ec
      subst ec
      cases hl : es.lookup f with
      | none => rw [hl] at x'; exact x'.elim
      | some y =>
        rw [hl] at x'
        obtain ⟨a, dx, fs, e1, h1, rf⟩ := r.objAt sr1 ho
        obtain ⟨w, h2, rw_⟩ := rf.look hl
        exact ⟨a, _, dx, fs, w, e1, h1, hc.cls, hc.no, h2, x' w H1 g1 st sr1 rw_⟩
    · exact x'.elim
end
section
variable {X : Cx} {W : WX} {xe env : EnvD} {α : Type} {dec : α → Flo} {U : TS} {rest : List Stmt} {e : Expr} {pos : Pos}
/-- o.f = e, o in a cell -/
theorem jc_setAttr {c : Str} {o : Expr} {f : Str} {tpos : Pos} {m mo : M D} {k : M α} (hc : ClsD X.K c f) (w : Weak xe env) (h : JE X W env e m) (ho : JE X W env o mo) (hr : JC X W xe env rest U k dec)
    (hs : swapsWith e (some (.Attribute o f tpos)) pos.line X.env = pure false := by rfl) :
    JC X W xe env (.Assign [.Attribute o f tpos] e pos :: rest) U (m >>= fun v => mo >>= fun d => Op.setAttr c f d v >>= fun _ => k) dec :=
  PSs.step (ps_fld ho h hs) (nexts_run (δ := Unit) (f := fun _ => env) (k := fun _ => k) fun _ => hr) fun D1 σ H ⟨Dn, e1, H0, g0, gg, s, st0, sr, eo, fr, q⟩ => by
    refine tS.expr (Rl := RS X.K) w st0 sr eo fr q fun v s1 vv H1 g1 st1 sr1 eo1 rv q1 => ?_
    refine tS.expr (Rl := RS X.K) w (st0.trans st1) sr1 eo1 fr q1 fun d s2 dv H2 g2 st2 sr2 eo2 rd q2 => ?_
    have q3 := post_bind.mp q2
    have q4 : (Op.setAttr c f d v s2).post _ _ := q3
    unfold Op.setAttr at q4
    split at q4
    · rename_i n
      split at q4
      · rename_i c' es hds
        split at q4
        · rename_i hcond
          obtain ⟨rfl, hlen⟩ := hcond
          cases rd with
          | @ref a _ hfa =>
            obtain ⟨dx, fs, hH, rl⟩ := sr2.cell n a _ hfa hds
            have S := (st0.trans st1).trans st2
            obtain ⟨c1, c2, c3⟩ := cell_upd (o := .ins (He.ga X.K c') dx (L2.putF f vv fs)) (d' := .obj c' (Op.putFD f v es)) S sr2 eo2 hfa (List.getElem?_eq_some_iff.mp hds).1 (step_old S (List.mem_of_getElem? hfa)) (fun H' z => ⟨dx, _, z, rl.put (rv.mono st2.hb st2.fi)⟩) (fun xs z => by rw [hH] at z; cases z)
            exact ⟨a, _, dx, fs, rfl, hH, hc.cls, hc.no, by rw [rl.length]; exact hlen, (), Dn, e1, H0, g0, g2, _, c1, c2, c3, fr, q4⟩
        · exact q4.elim
      · exact q4.elim
    · exact q4.elim
end
/-! ### C(..): the instance is built in a cell, then it is immutable -/
/-- the mirror's making: __init__ on a new cell; nothing else may point to it -/
def makeM (c : Str) (m : List D → M D) (ds : List D) : M D := fun s => match m (.ref s.length :: ds) (s ++ [.obj c []]) with
  | .ok .non s' => (match s'[s.length]? with
    | some (.obj c' es) => if c' = c ∧ s'.length = s.length + 1 ∧ D.noRefF es = true ∧ (s'.take s.length).all D.noRef = true then .ok (.obj c es) (s'.take s.length) else .bad
    | _ => .bad)
  | .ok _ _ => .bad
  | .ex c' fs s' => if s'.length = s.length + 1 ∧ D.noRefF fs = true ∧ (s'.take s.length).all D.noRef = true then .ex c' fs (s'.take s.length) else .bad
  | .bad => .bad
end DL

set_option maxRecDepth 100000
set_option autoImplicit false
/-! DL22: < for ints and for data in one; `is not` of truth values; extend. -/
namespace DL
open PySem PySem.Spec PyProof.Rows L2
namespace Op
def bothI : D → D → Bool
  | .int _, .int _ => true
  | _, _ => false
def ltG (d e : D) : M D := if bothI d e then lt d e else lt2 d e
def leG (d e : D) : M D := if bothI d e then le d e else le2 d e
def gtG (d e : D) : M D := if bothI d e then gt d e else gt2 d e
def geG (d e : D) : M D := if bothI d e then ge d e else ge2 d e
def isNotBl : D → D → M D
  | .bl a, .bl b => pure (.bl (!decide (a = b)))
  | _, _ => M.bad
end Op
theorem nx_ltG (d e : D) : NoEx (Op.ltG d e) := noEx_ite (nx_lt d e) (nx_lt2 d e)
theorem nx_leG (d e : D) : NoEx (Op.leG d e) := noEx_ite (nx_le d e) (nx_le2 d e)
theorem nx_gtG (d e : D) : NoEx (Op.gtG d e) := noEx_ite (nx_gt d e) (nx_gt2 d e)
theorem nx_geG (d e : D) : NoEx (Op.geG d e) := noEx_ite (nx_ge d e) (nx_ge2 d e)
theorem nx_isNotBl (d e : D) : NoEx (Op.isNotBl d e) := by unfold Op.isNotBl; split; exact noEx_pure _; exact noEx_bad
section
variable {X : Cx}
/-- either of two -/
theorem od_ite {f : Value → Value → Sem Value} {c : D → D → Bool} {g1 g2 : D → D → M D} (h1 : OpD X f g1) (h2 : OpD X f g2) : OpD X f (fun d e => if c d e then g1 d e else g2 d e) := by
  intro pins s σ H x y v u Q I rx ry ⟨g, st, d, e, sr, bx, by_, q⟩
  have q : Mp X.K (RS X.K) (if c d e = true then g1 d e else g2 d e) H g st Q (fun _ _ _ => False) := q
  cases hc : c d e with
  | true => rw [hc, if_pos rfl] at q; exact h1 pins s σ H x y v u Q I rx ry ⟨g, st, d, e, sr, bx, by_, q⟩
  | false => rw [hc, if_neg Bool.false_ne_true] at q; exact h2 pins s σ H x y v u Q I rx ry ⟨g, st, d, e, sr, bx, by_, q⟩
theorem od_ltG (hu : X.A.units + 64 < cLine) : OpD X (compareOp .Lt) Op.ltG := od_ite od_lt (od_lt2 hu)
theorem od_leG (hu : X.A.units + 64 < cLine) : OpD X (compareOp .LtE) Op.leG := od_ite od_le (od_le2 hu)
theorem od_gtG (hu : X.A.units + 64 < cLine) : OpD X (compareOp .Gt) Op.gtG := od_ite od_gt (od_gt2 hu)
theorem od_geG (hu : X.A.units + 64 < cLine) : OpD X (compareOp .GtE) Op.geG := od_ite od_ge (od_ge2 hu)
theorem od_isNotBl : OpD X (compareOp .IsNot) Op.isNotBl := by
  intro pins s σ H x y v u Q I rx ry ⟨g, st, d, e, sr, bx, by_, q⟩
  unfold Op.isNotBl at q
  split at q
  · rw [bx.bl] at rx; rw [by_.bl] at ry
    exact op_isnot_bl pins s σ H _ _ v u Q I rx ry ⟨_, _, rfl, rfl, Mp.pure q sr (.bl _)⟩
  · exact q.elim
end
section
variable {X : Cx} {W : WX} {xe env : EnvD} {α : Type} {dec : α → Flo} {U : TS} {rest : List Stmt} {e : Expr} {pos : Pos}
/-- x.extend(fresh list), x an own list -/
theorem jc_extend (i : Nat) {x : Str} {p ap cp : Pos} {m : M D} {k : List D → M α} {xs : List D} (w : Weak xe env) (h : JF X W env e m) (hr : ∀ ds, JC X W xe (env.set i (some (.own (.lst (xs ++ ds))))) rest U (k ds) dec) (he : env[i]? = some (some (.own (.lst xs))) := by rfl) (hN : X.N[i]? = some x := by rfl) (hv : Vis X.env.scope x := by first | exact Or.inl rfl | exact Or.inr (Or.inl rfl) | exact Or.inr (Or.inr rfl))
    (hbase : attributeBase (.Name x p) "extend" X.env (eval (.Name x p) X.env) = eval (.Name x p) X.env := by rfl)
    (hfew : ((backTo cp (starEach [e] X.env)).all (fun x => !x.1) && (backToKw cp (keywordEach [] X.env)).all (fun x => x.1.isSome)
      && decide ([e].length + ([] : List Keyword).length + (if ([] : List Keyword).isEmpty then 0 else 1) < 30)) = true := by rfl)
    (hline : (ap.endLine == cp.line) = true := by rfl) (hst : starEach [e] X.env = (false, eval e X.env) :: starEach [] X.env := by rfl) (hplain : (backTo cp (starEach [] X.env)).any (·.1) = false := by rfl)
    (hd : (x == ("__debug__" : Str)) = false := by decide) (hcd : (x == ("__classdict__" : Str)) = false := by decide)
    (hs : swapsWith (.Call (.Attribute (.Name x p) "extend" ap) [e] [] cp) none pos.line X.env = pure false := by rfl) :
    JC X W xe env (.Expr (.Call (.Attribute (.Name x p) "extend" ap) [e] [] cp) pos :: rest) U (m >>= lstK fun ds => if Op.lenOk (xs.length + ds.length) then k ds else M.bad) dec :=
  PSs.step (ps_expr (pe_bm PySem.F.plainAttrs_list PySem.F.slot_list_extend PySem.F.type_list_extend mt_extend (pe_var hN hv hd hcd) (pa_cons h pa_nil hst) hbase hfew hline hst hplain) hs) (nexts_run (f := fun ds => env.set i (some (.own (.lst (xs ++ ds))))) (k := k) hr)
    fun D1 σ H ⟨D, e1, H0, g0, g, s, st0, sr, eo, fr, q⟩ => by
      obtain ⟨a, h1, ow, nb, nf⟩ := eo.own i _ he
      obtain ⟨vs, hH, rl⟩ := ow
      refine ⟨_, h1, .inl ⟨rfl, vs, SqL.of hH⟩, g, s, sr, eo, Res.post.imp (post_bind.mp q) (fun d s1 q1 b H1 g1 st sr1 hb0 ob nb1 nf1 => ?_) fun c fs s' x => exS.toP (s := s) x st0 eo fr w⟩
      cases d with
      | lst ds =>
        have q2 : ((if Op.lenOk (xs.length + ds.length) then k ds else M.bad) s1).post _ _ := q1
        split at q2
        · rename_i c
          have eo1 := eo.step st
          obtain ⟨a', h1', ow', nb', nf'⟩ := eo1.own i _ he
          rw [h1] at h1'
          cases h1'
          obtain ⟨vs', hH', rl'⟩ := ow'
          obtain ⟨zs, hB, rz⟩ := ob
          have hl := lenOk_le c
          refine ⟨a, b, vs', zs, rfl, rfl, hH', hB, by rw [rl'.length, rz.length]; omega, ?_⟩
          obtain ⟨st2, sr2, eo2, fr2⟩ := own_upd (o := .lst (vs' ++ zs)) (d' := .lst (xs ++ ds)) (st0.trans st) sr1 eo1 fr he h1 fun H' z => ⟨_, z, rl'.app rz⟩
          exact ⟨ds, D, e1, H0, g0, g1, s1, st2, sr2, eo2, fr2, q2⟩
        · exact q2.elim
      | _ => exact q1.elim
end
end DL

set_option maxRecDepth 100000
set_option autoImplicit false
/-! DL23: dicts with whole numbers and texts as keys: displays, d[k]. -/
namespace DL
open PySem PySem.Spec PyProof.Rows L2
def keyD : Key → D
  | .inl i => .int i
  | .inr x => .str x
def kD : D → Option Key
  | .int i => some (.inl i)
  | .str x => some (.inr x)
  | _ => none
theorem kD_keyD (k : Key) : kD (keyD k) = some k := by cases k <;> rfl
theorem keyD_inj {k l : Key} (h : keyD k = keyD l) : k = l := by
  have := congrArg kD h
  rw [kD_keyD, kD_keyD] at this
  exact Option.some.inj this
theorem kD_eq {d : D} {k : Key} (h : kD d = some k) : d = keyD k := by
  cases d <;> first | (cases h; rfl) | (cases h; done)
def hasK (es : List (D × D)) (k : Key) : Bool := es.any fun e => decide (kD e.1 = some k)
def getK : List (D × D) → Key → Option D
  | [], _ => none
  | (e, d) :: r, k => if kD e = some k then some d else getK r k
def putKD (es : List (D × D)) (k : Key) (d : D) : List (D × D) := if hasK es k then es.map (fun e => if kD e.1 = some k then (e.1, d) else e) else es ++ [(keyD k, d)]
def mergeKD (es : List (D × D)) (ps : List (Key × D)) : List (D × D) := ps.foldl (fun acc p => putKD acc p.1 p.2) es
section
variable {K : PySem.W.Frag} {fi : List Addr} {H : Hp}
theorem rep_key {k : Key} {e : D} (r : Rep K fi H (kV k) e) : e = keyD k := by
  cases k <;> (unfold kV at r; cases r; rfl)
theorem rep_ofKey {v : V} {d : D} {k : Key} (r : Rep K fi H v d) (h : kD d = some k) : v = kV k := by
  have := kD_eq h
  subst this
  cases k <;> (unfold keyD at r; cases r; rfl)
theorem repKey (k : Key) : Rep K fi H (kV k) (keyD k) := by cases k <;> constructor
theorem RepK.app : ∀ {a b : List (Key × V)} {c d : List (D × D)}, RepK K fi H a c → RepK K fi H b d → RepK K fi H (a ++ b) (c ++ d)
  | _, _, _, _, .nil, r => r
  | _, _, _, _, .cons h1 h2 r, q => .cons h1 h2 (r.app q)
theorem RepK.has {k : Key} : ∀ {kvs : List (Key × V)} {es : List (D × D)}, RepK K fi H kvs es → (kvs.any fun kv => decide (kv.1 = k)) = hasK es k
  | _, _, .nil => rfl
  | _, _, .cons (k := j) h1 h2 r => by
    have e := rep_key h1
    subst e
    unfold hasK
    rw [List.any_cons, List.any_cons, r.has (k := k)]
    unfold hasK
    congr 1
    rw [kD_keyD]
    simp
theorem RepK.get {k : Key} : ∀ {kvs : List (Key × V)} {es : List (D × D)}, RepK K fi H kvs es → (∀ d, getK es k = some d → ∃ v, valV kvs k = some v ∧ Rep K fi H v d) ∧ (getK es k = none → valV kvs k = none)
  | _, _, .nil => ⟨fun d h => (by cases h), fun _ => rfl⟩
  | _, _, .cons (k := j) h1 h2 r => by
    have e := rep_key h1
    subst e
    unfold getK
    rw [kD_keyD]
    by_cases hj : j = k
    · subst hj
      rw [if_pos rfl]
      exact ⟨fun d h => (by cases h; exact ⟨_, valV_pos rfl, h2⟩), fun h => (by cases h)⟩
    · rw [if_neg (fun z => hj (Option.some.inj z)), valV_neg hj]
      exact r.get
theorem RepK.map {k : Key} {v : V} {d : D} (rv : Rep K fi H v d) : ∀ {kvs : List (Key × V)} {es : List (D × D)}, RepK K fi H kvs es → RepK K fi H (kvs.map (fun kv => if kv.1 = k then (kv.1, v) else kv)) (es.map (fun e => if kD e.1 = some k then (e.1, d) else e))
  | _, _, .nil => .nil
  | _, _, .cons (k := j) h1 h2 r => by
    have e := rep_key h1
    subst e
    rw [List.map_cons, List.map_cons, kD_keyD]
    by_cases hj : j = k
    · subst hj
      rw [if_pos rfl, if_pos rfl]
      exact .cons (repKey _) rv (r.map rv)
    · rw [if_neg hj, if_neg (fun z => hj (Option.some.inj z))]
      exact .cons (repKey _) h2 (r.map rv)
theorem RepK.put {kvs : List (Key × V)} {es : List (D × D)} {k : Key} {v : V} {d : D} (r : RepK K fi H kvs es) (rv : Rep K fi H v d) : RepK K fi H (putK kvs k v) (putKD es k d) := by
  unfold putK putKD
  rw [r.has]
  split
  · exact r.map rv
  · exact r.app (.cons (repKey k) rv .nil)
theorem RepK.length : ∀ {kvs : List (Key × V)} {es : List (D × D)}, RepK K fi H kvs es → kvs.length = es.length
  | _, _, .nil => rfl
  | _, _, .cons _ _ r => by rw [List.length_cons, List.length_cons, r.length]
theorem RepK.merge : ∀ {ps : List (Key × D)} {kvs more : List (Key × V)} {es : List (D × D)}, RepK K fi H kvs es → RepK K fi H more (ps.map fun p => (keyD p.1, p.2)) → RepK K fi H (mergeK kvs more) (mergeKD es ps)
  | [], _, _, _, r, q => by cases q; exact r
  | p :: ps, _, _, _, r, q => by
    rw [List.map_cons] at q
    cases q with
    | cons h1 h2 q =>
      have := keyD_inj (rep_key h1)
      subst this
      exact (RepK.merge (r.put h2) q : RepK K fi H (mergeK (putK _ _ _) _) (mergeKD (putKD _ _ _) ps))
end
/-! displays -/
/-- the pairs of a display, in order -/
def tP (K : PySem.W.Frag) (W : WX) (env : EnvD) (m : M (List (Key × D))) (trs : List (TE × TE)) : Prop := ∀ σ H (Q : List (V × V) → Hp → Prop), tX K W env (fun g _ ps ds => ∃ kvs : List (Key × V), ps = kvs.map (fun kv => (kV kv.1, kv.2)) ∧ RepK K g.fi g.hb kvs (ds.map fun p => (keyD p.1, p.2))) m σ H Q → tPairs trs σ H Q
def JP (X : Cx) (W : WX) (env : EnvD) (pos : Pos) (keys : List (Option Expr)) (values : List Expr) (m : M (List (Key × D))) : Prop := ∃ trs, PPs X pos keys values trs ∧ tP X.K W env m trs
section
variable {X : Cx} {W : WX} {env : EnvD} {pos : Pos}
theorem jp_nil : JP X W env pos [] [] (pure []) := ⟨[], pps_nil, fun σ H Q ⟨g, s, sr, eo, q⟩ => Mp.pure q sr ⟨[], rfl, .nil⟩⟩
theorem jp_cons {k v : Expr} {ks : List (Option Expr)} {vs : List Expr} {mk mv : M D} {ms : M (List (Key × D))} (hk : JE X W env k mk) (hv : JE X W env v mv) (hr : JP X W env pos ks vs ms) :
    JP X W env pos (some k :: ks) (v :: vs) (mk >>= fun x => mv >>= fun y => ms >>= fun r => match kD x with
      | some k => pure ((k, y) :: r)
      | none => M.bad) := by
  obtain ⟨trs, h1, h2⟩ := hr
  refine ⟨_, pps_cons hk hv h1, fun σ H Q ⟨g, s, sr, eo, q⟩ => ?_⟩
  refine tX.bind sr eo q fun x s1 vx H1 g1 st sr1 eo1 rx q1 => tX.bind sr1 eo1 q1 fun y s2 vy H2 g2 st2 sr2 eo2 ry q2 => h2 σ H2 _ (tX.bind sr2 eo2 q2 fun ds s3 ps H3 g3 st3 sr3 eo3 rp q3 => ?_)
  obtain ⟨kvs, rfl, rk⟩ := rp
  cases hkx : kD x with
  | none => rw [hkx] at q3; exact q3.elim
  | some kk =>
    rw [hkx] at q3
    have ek := rep_ofKey rx hkx
    subst ek
    exact Mp.pure q3 sr3 ⟨(kk, vy) :: kvs, rfl, .cons (repKey kk) ((ry.mono st3.hb st3.fi)) rk⟩
theorem jf_disp {keys : List (Option Expr)} {values : List Expr} {m : M (List (Key × D))} (h : JP X W env pos keys values m) (hall : keys.all (·.isSome) = true := by rfl) (hl : keys.length = values.length := by rfl) (h0 : keys ≠ [] := by exact List.cons_ne_nil _ _) (h15 : keys.length ≤ 15 := by decide) :
    JF X W env (.Dict keys values pos) (m >>= fun ps => if ps.length ≤ 15 then pure (.dct (mergeKD [] ps)) else M.bad) := by
  obtain ⟨trs, h1, h2⟩ := h
  refine PE.imp (pe_disp h1 hall hl h0 h15) fun σ H Q ⟨g, s, sr, eo, q⟩ p hp => h2 σ _ _ ?_
  obtain ⟨st, sr1, nb, nf⟩ := newOwn sr hp (.dK [])
  refine tX.mk sr1 (eo.step st) (Res.post.imp (post_bind.mp q) (fun ds s1 x ps H1 g1 st1 sr2 eo2 r => ?_) fun c fs s' x => exP.step x st)
  obtain ⟨kvs, rfl, rk⟩ := r
  have hp1 : H1 p = some (.dK []) := st1.frame _ _ upd_same nf
  have nb1 : g1.hb p = none := st1.newb p nb (by rw [upd_same]; simp)
  have nf1 : p ∉ g1.fi := fun z => nf (st1.newf p z (by rw [upd_same]; simp))
  split at x
  · rename_i c
    refine ⟨hp1, kvs, rfl, by rw [rk.length, List.length_map]; exact c, ?_⟩
    have S := st.trans st1
    have nD : ∀ {b : Addr} {u : HO}, H b = some u → b ≠ p := fun h z => by rw [z, hp] at h; cases h
    refine x p _ g1 ⟨S.hb, S.fi, fun b u h n => by rw [upd_ne (nD h)]; exact S.frame b u h n, fun b h => ?_, S.newb, S.newf⟩ ⟨fun b u h => by rw [upd_ne (ne_of_none h nb1)]; exact sr2.sub _ _ h, sr2.len, sr2.nodup, sr2.out, fun n b d h1 h2 => (sr2.cell n b d h1 h2).mono .rfl .rfl fun o h => ?_⟩ hp ⟨_, upd_same, RepK.merge .nil rk⟩ nb1 nf1
    · by_cases e : b = p
      · rw [e]; exact hp
      · rw [upd_ne e] at h; exact S.live b h
    · have : b ≠ p := fun z => nf1 (by rw [← z]; exact List.mem_of_getElem? h1)
      rw [upd_ne this]; exact h
  · exact x.elim
end
/-! d[k] -/
namespace Op
def dget (d k : D) : M D := match d with
  | .dct es => (match kD k with
    | some k => (match getK es k with
      | some x => pure x
      | none => M.bad)
    | none => M.bad)
  | _ => M.bad
end Op
section
variable {X : Cx} {W : WX} {env : EnvD} {pos : Pos}
theorem je_dget {a b : Expr} {ma mb : M D} (hu : X.A.units + 64 < cLine) (ha : JB X W env a ma) (hb : JE X W env b mb) (hs : NoSl b) : JE X W env (.Subscript a b pos) (ma >>= fun x => mb >>= fun y => Op.dget x y) :=
  PE.imp (pe_dget (by omega) ha hb hs) fun σ H Q ⟨g, s, sr, eo, q⟩ => tX.bind sr eo q fun d s1 v H1 g1 st sr1 eo1 r q1 => tX.bind sr1 eo1 q1 fun d' s2 v' H2 g2 st2 sr2 eo2 r' q2 => by
    cases d with
    | dct es =>
      have q3 : ((match kD d' with
        | some k => (match getK es k with
          | some x => (pure x : M D)
          | none => M.bad)
        | none => M.bad) s2).post _ _ := q2
      cases hk : kD d' with
      | none => rw [hk] at q3; exact q3.elim
      | some k =>
        rw [hk] at q3
        dsimp only at q3
        cases hg : getK es k with
        | none => rw [hg] at q3; exact q3.elim
        | some x =>
          rw [hg] at q3
          obtain ⟨a', kvs, rfl, hH, rk⟩ := (r.step st2).dct sr2
          have ek := rep_ofKey r' hk
          subst ek
          obtain ⟨w, e1, rw_⟩ := rk.get.1 x hg
          exact ⟨a', w, rfl, by rw [← e1]; exact DGet.k hH, Mp.pure q3 sr2 rw_⟩
    | _ => exact q2.elim
end
end DL

set_option maxRecDepth 100000
set_option autoImplicit false
/-! DL24: [elt for t in iter if .. for t1 in iter1 if ..]. -/
namespace DL
open PySem PySem.Spec PyProof.Rows L2
def compMM (f : D → M (List D)) : List D → M (List D)
  | [] => pure []
  | x :: xs => M.nx (f x) >>= fun ys => compMM f xs >>= fun rs => pure (ys ++ rs)
def comp2 (f : D → M (List D)) (xs : List D) : M D := compMM f xs >>= finL
section
variable {K : PySem.W.Frag}
/-- the list that is being made grows -/
theorem acc_up {H1 H5 : Hp} {g1 g5 : Gh} {s5 : Sto} {Dd : Addr} {o : HO} (st : Step H1 g1 H5 g5) (sr5 : SR K H5 g5 s5) (hD : H1 Dd = none) (nb5 : g5.hb Dd = none) (nf5 : Dd ∉ g5.fi) : Step H1 g1 (upd H5 Dd o) g5 ∧ SR K (upd H5 Dd o) g5 s5 := by
  have nD : ∀ {b : Addr} {u : HO}, H1 b = some u → b ≠ Dd := fun h z => by rw [z, hD] at h; cases h
  refine ⟨⟨st.hb, st.fi, fun b u h n => by rw [upd_ne (nD h)]; exact st.frame b u h n, fun b h => ?_, st.newb, st.newf⟩, ⟨fun b u h => by rw [upd_ne (ne_of_none h nb5)]; exact sr5.sub _ _ h, sr5.len, sr5.nodup, sr5.out, fun n b d h1 h2 => (sr5.cell n b d h1 h2).mono .rfl .rfl fun o h => ?_⟩⟩
  · by_cases e : b = Dd
    · rw [e]; exact hD
    · rw [upd_ne e] at h; exact st.live b h
  · have : b ≠ Dd := fun z => nf5 (by rw [← z]; exact List.mem_of_getElem? h1)
    rw [upd_ne this]; exact h
theorem env_up {H5 : Hp} {g5 : Gh} {σ : SS} {env : EnvD} {Dd : Addr} {ws vs : List V} (eo : EnvOk K H5 g5 σ env) (hD5 : H5 Dd = some (.lst vs)) (ow : ∀ (i : Nat) (d : D) (a : Addr), env[i]? = some (some (.own d)) → σ[i]? = some (some (.ref a)) → a ≠ Dd) : EnvOk K (upd H5 Dd (.lst ws)) g5 σ env := by
  have keep : ∀ {b : Addr} {u : HO}, H5 b = some u → b ≠ Dd → upd H5 Dd (.lst ws) b = some u := fun h n => by rw [upd_ne n]; exact h
  refine ⟨eo.len, eo.val, fun i d h => ?_, eo.dis, fun i a dx fs h => ?_⟩
  · obtain ⟨a, h1, o, h2⟩ := eo.own i d h
    exact ⟨a, h1, o.mono .rfl .rfl fun o' h' => keep h' (ow i d a h h1), h2⟩
  · obtain ⟨h1, xr⟩ := eo.exc i a dx fs h
    refine ⟨h1, ?_⟩
    rcases xr with z | ⟨p, vs', e1, e2, e3, e4⟩
    · exact .inl z
    · exact .inr ⟨p, vs', e1, keep e2 (fun z => by rw [z, hD5] at e2; cases e2), e3, e4⟩
theorem own_wipeE {env : EnvD} {j : Nat} {d : D} : ∀ {vs : List Nat}, (wipeE env vs)[j]? = some (some (C.own d)) → env[j]? = some (some (C.own d)) ∧ j ∉ vs
  | [], h => ⟨h, by simp⟩
  | v :: vs, h => by
    have h : ((wipeE env vs).set v none)[j]? = some (some (C.own d)) := h
    by_cases e : v = j
    · subst e
      by_cases hl : v < (wipeE env vs).length
      · rw [List.getElem?_set_self hl] at h; cases h
      · rw [List.getElem?_eq_none (by simpa using hl)] at h; cases h
    · rw [List.getElem?_set_ne e] at h
      obtain ⟨h1, h2⟩ := own_wipeE h
      exact ⟨h1, fun z => (List.mem_cons.mp z).elim (fun z => e z.symm) h2⟩
theorem wipe_get {σ : SS} {j : Nat} : ∀ {vs : List Nat}, j ∉ vs → (wipe σ vs)[j]? = σ[j]?
  | [], _ => rfl
  | v :: vs, h => by
    have e : wipe σ (v :: vs) = (wipe σ vs).set v none := rfl
    rw [e, List.getElem?_set_ne (fun z => h (by rw [z]; exact List.mem_cons_self)), wipe_get fun z => h (List.mem_cons_of_mem _ z)]
def f2 {α β : Type} (tf : D → M α) (mt : α → M Bool) (mi1 : α → M (List D)) (tf1 : D → M β) (mt1 : α → β → M Bool) (me : α → β → M D) : D → M (List D) := fun x => tf x >>= fun a => mt a >>= fun b => if b then mi1 a >>= compM (fun y => tf1 y >>= fun c => mt1 a c >>= fun b => if b then me a c >>= fun z => pure (some z) else pure none) else pure []
def lcI {α : Type} (K : PySem.W.Frag) (env : EnvD) (vs : List Nat) (ef : EnvD → α → EnvD) (mi1 : α → M (List D)) : TI := fun σ H R => ∃ a : α, iX K (fun _ _ _ _ => False) (ef (wipeE env vs) a) (mi1 a) σ H R
def lcT2 {α β : Type} (K : PySem.W.Frag) (env : EnvD) (vs vs1 : List Nat) (ef : EnvD → α → EnvD) (ef1 : EnvD → β → EnvD) (mt : α → β → M Bool) : TT := fun σ H Q => ∃ (x : α) (y : β), tX K (fun _ _ _ _ => False) (ef1 (wipeE (ef (wipeE env vs) x) vs1) y) RT (mt x y) σ H Q
def lcE2 {α β : Type} (K : PySem.W.Frag) (env : EnvD) (vs vs1 : List Nat) (ef : EnvD → α → EnvD) (ef1 : EnvD → β → EnvD) (me : α → β → M D) : TE := fun σ H Q => ∃ (x : α) (y : β), tX K (fun _ _ _ _ => False) (ef1 (wipeE (ef (wipeE env vs) x) vs1) y) (RS K) (me x y) σ H Q
theorem nx_nx {α : Type} (m : M α) : NoEx (M.nx m) := fun s c d s' h => by
  unfold M.nx at h
  split at h <;> first | (cases h; done) | (rename_i z; exact (z _ _ _ h).elim)
theorem nx_compMM (f : D → M (List D)) : ∀ l, NoEx (compMM f l)
  | [] => noEx_pure _
  | a :: l => noEx_bind (nx_nx _) fun _ => noEx_bind (nx_compMM f l) fun _ => noEx_pure _
theorem finL_len {acc rs : List D} {y : D} {s : Sto} {ok : D → Sto → Prop} (h : (finL (acc ++ (y :: rs)) s).post ok (fun _ _ _ => False)) : acc.length < sizeLine := by
  unfold finL at h
  split at h
  · rename_i c
    have := lenOk_le c
    rw [List.length_append, List.length_cons] at this
    omega
  · exact h.elim
theorem lc2_imp {α β : Type} {W : WX} {env : EnvD} {own : List (Str × Nat)} {vs1 : List Nat} {g gg1 : TG} {slots slots1 : List Nat} {tf : D → M α} {ef : EnvD → α → EnvD} {tf1 : D → M β} {ef1 : EnvD → β → EnvD} {mi : M (List D)} {mt : α → M Bool} {mi1 : α → M (List D)} {mt1 : α → β → M Bool} {me : α → β → M D}
    (hgo : GOk K g slots tf ef) (hsl : ∀ i ∈ slots, i ∈ own.map (·.2)) (hgo1 : GOk K gg1 slots1 tf1 ef1) (hsl1 : ∀ i ∈ slots1, i ∈ vs1) {σ : SS} {H : Hp} {Q : VK}
    (hq : tF K W env (mi >>= comp2 (f2 tf mt mi1 tf1 mt1 me)) σ H Q) :
    tLc2 (iXB K W env mi) g (lcT K env (own.map (·.2)) ef mt) (lcI K env (own.map (·.2)) ef mi1) gg1 (lcT2 K env (own.map (·.2)) vs1 ef ef1 mt1) (lcE2 K env (own.map (·.2)) vs1 ef ef1 me) (own.map (·.2)) vs1 σ H Q := by
  obtain ⟨g0, s0, sr0, eo0, q0⟩ := hq
  refine ⟨g0, s0, sr0, eo0, Res.post.imp (post_bind.mp q0) (fun ds s1 x H1 g1 J st1 sr1 wk Dd hD => ?_) fun _ _ _ x => x⟩
  obtain ⟨stD, srD, nbD, nfD⟩ := newOwn sr1 hD (.lst [])
  let vs := own.map (·.2)
  let f : D → M (List D) := f2 tf mt mi1 tf1 mt1 me
  let OK : D → Sto → Prop := fun d s => ∀ a H' g', Step H1 g1 H' g' → SR K H' g' s → H1 a = none → Own K g'.fi g'.hb H' a d → g'.hb a = none → a ∉ g'.fi → Q (.ref a) H'
  let P : Nat → Hp → Prop := fun i Hc => ∃ g2 s2 acc accV, Step H1 g1 Hc g2 ∧ SR K Hc g2 s2 ∧ EnvOk K Hc g2 σ env ∧ Hc Dd = some (.lst accV) ∧ RepL K g2.fi g2.hb accV acc ∧ g2.hb Dd = none ∧ Dd ∉ g2.fi ∧
    ((compMM f (ds.drop i) >>= fun rs => finL (acc ++ rs)) s2).post OK (fun _ _ _ => False)
  have ownNe : ∀ (i : Nat) (d : D) (a : Addr), env[i]? = some (some (.own d)) → σ[i]? = some (some (.ref a)) → a ≠ Dd := fun i d a h1 h2 z => by
    obtain ⟨b, h3, o, _⟩ := (eo0.step st1).own i d h1
    rw [h2] at h3
    cases h3
    obtain ⟨u, hu⟩ := o.there
    rw [z, hD] at hu
    cases hu
  refine ⟨fun i mm Hc => mm = ds.length - i ∧ i ≤ ds.length ∧ P i Hc, ⟨ds.length, by simp, Nat.zero_le _, g1, s1, [], [], stD, srD, (eo0.step st1).step stD, upd_same, .nil, nbD, nfD, ?_⟩, ?_⟩
  · have x' : ((compMM f ds >>= finL) s1).post _ _ := x
    simp only [List.drop_zero, List.nil_append]
    have nxf : NoEx (compMM f ds >>= finL) := noEx_bind (nx_compMM f ds) fun _ => noEx_ite (noEx_pure _) noEx_bad
    show ((compMM f ds >>= finL) s1).post OK _
    have x2 : ((compMM f ds >>= finL) s1).post OK (exP K H g0 fun c dx H' => W c dx σ H') :=
      Res.post.imp x' (fun d s y a H' g' st' sr' hn o nb nf => y a H' g' (st1.trans st') sr' (st1.live a hn) o nb nf) fun _ _ _ z => z
    cases e : (compMM f ds >>= finL) s1 with
    | ok d s => rw [e] at x2; exact x2
    | ex c d s => exact absurd e (nxf s1 c d s)
    | bad => rw [e] at x2; exact x2
  · rintro i mm Hc ⟨rfl, hi, g2, s2, acc, accV, st2, sr2, eo2, hDd, racc, nb2, nf2, q2⟩
    obtain ⟨wgo, wstop⟩ := wk Hc g2 st2 sr2.sub
    by_cases hlt : i < ds.length
    · refine .inr ⟨(wgo i _ (List.getElem?_eq_getElem hlt)).1, P (i + 1), fun H' p' => ⟨ds.length - (i + 1), by omega, rfl, hlt, p'⟩, fun v H' y => ?_⟩
      obtain ⟨g3, st3, srf, rv⟩ := (wgo i _ (List.getElem?_eq_getElem hlt)).2 v H' y
      have sr3 := srf s2 sr2
      have hDd3 := st3.frame _ _ hDd nf2
      have nb3 : g3.hb Dd = none := st3.newb Dd nb2 (by rw [hDd]; simp)
      have nf3 : Dd ∉ g3.fi := fun z => nf2 (st3.newf Dd z (by rw [hDd]; simp))
      have dr : ds.drop i = ds[i] :: ds.drop (i + 1) := (List.drop_eq_getElem_cons hlt)
      rw [dr] at q2
      have q3 := post_bind.mp q2
      have q4 := post_bind.mp q3
      have q5 : (f ds[i] s2).post _ (fun _ _ _ => False) := M.nx_post (ex' := fun _ _ _ => False) q4
      have q6 := post_bind.mp q5
      cases etf : tf ds[i] s2 with
      | ex c d s3 => rw [etf] at q6; exact q6.elim
      | bad => rw [etf] at q6; exact q6.elim
      | ok a s3 =>
      rw [etf] at q6
      obtain ⟨rfl, hgo'⟩ := hgo.go (wipeE env vs) (wipe σ vs) H' g3 s2 s3 v ds[i] a _ sr3 ((eo2.step st3).wiped _) rv etf
      refine hgo' fun σ' eo' hw hns => ⟨by rw [hw _ hsl, wipe_idem], a, tX.mk sr3 eo' (Res.post.imp (post_bind.mp q6) (fun b s4 q7 b' H4 g4 st4 sr4 eo4 rb => ?_) fun _ _ _ z => z.elim)⟩
      cases rb
      have hDd4 := st4.frame _ _ hDd3 nf3
      have nb4 : g4.hb Dd = none := st4.newb Dd nb3 (by rw [hDd3]; simp)
      have nf4 : Dd ∉ g4.fi := fun z => nf3 (st4.newf Dd z (by rw [hDd3]; simp))
      cases b with
      | false =>
        rw [if_neg Bool.false_ne_true]
        have q8 : ((compMM f (ds.drop (i + 1)) >>= fun rs => pure ([] ++ rs)) s4).post _ _ := q7
        refine ⟨g4, s4, acc, accV, (st2.trans st3).trans st4, sr4, (eo2.step st3).step st4, hDd4, (racc.mono st3.hb st3.fi).mono st4.hb st4.fi, nb4, nf4, ?_⟩
        exact post_bind.mpr (Res.post.imp (post_bind.mp q8) (fun _ _ z => z) fun _ _ _ z => z)
      | true =>
        rw [if_pos rfl]
        -- the inner walk
        let env' : EnvD := ef (wipeE env vs) a
        let f1 : D → M (Option D) := fun y => tf1 y >>= fun c => mt1 a c >>= fun b => if b then me a c >>= fun z => pure (some z) else pure none
        have ownNe' : ∀ (i : Nat) (d : D) (a' : Addr), env'[i]? = some (some (.own d)) → σ'[i]? = some (some (.ref a')) → a' ≠ Dd := fun j d a' h1 h2 => by
          obtain ⟨n1, h3⟩ := hgo.ow _ _ _ _ h1
          obtain ⟨h4, n2⟩ := own_wipeE h3
          rw [hns j n1, wipe_get n2] at h2
          exact ownNe j d a' h4 h2
        have q7b : ((mi1 a >>= compM f1) s4).post _ _ := q7
        refine ⟨a, g4, s4, sr4, eo4, Res.post.imp (post_bind.mp q7b) (fun ds1 s5 q8 H5 g5 J1 st5 sr5 wk1 => ?_) fun _ _ _ z => z.elim⟩
        have hDd5 := st5.frame _ _ hDd4 nf4
        have nb5 : g5.hb Dd = none := st5.newb Dd nb4 (by rw [hDd4]; simp)
        have nf5 : Dd ∉ g5.fi := fun z => nf4 (st5.newf Dd z (by rw [hDd4]; simp))
        let P1 : Nat → Hp → Prop := fun j Hc => ∃ g6 s6 acc accV, Step H1 g1 Hc g6 ∧ SR K Hc g6 s6 ∧ EnvOk K Hc g6 σ env ∧ EnvOk K Hc g6 σ' env' ∧ Sub g5.hb g6.hb ∧ Pre g5.fi g6.fi ∧ Hc Dd = some (.lst accV) ∧ RepL K g6.fi g6.hb accV acc ∧ g6.hb Dd = none ∧ Dd ∉ g6.fi ∧
          ((compM f1 (ds1.drop j) >>= fun rs1 => compMM f (ds.drop (i + 1)) >>= fun rs => finL (acc ++ (rs1 ++ rs))) s6).post OK (fun _ _ _ => False)
        refine ⟨fun j kk Hc => kk = ds1.length - j ∧ j ≤ ds1.length ∧ P1 j Hc, ⟨ds1.length, by simp, Nat.zero_le _, g5, s5, acc, accV, ((st2.trans st3).trans st4).trans st5, sr5, ((eo2.step st3).step st4).step st5, eo4.step st5, .rfl, .rfl, hDd5, ((racc.mono st3.hb st3.fi).mono st4.hb st4.fi).mono st5.hb st5.fi, nb5, nf5, ?_⟩, ?_⟩
        · have q9 : (compM f1 ds1 s5).post _ _ := q8
          rw [List.drop_zero]
          refine post_bind.mpr (Res.post.imp q9 (fun rs1 s6 z => ?_) fun _ _ _ z => z)
          have z2 : ((compMM f (ds.drop (i + 1)) >>= fun rs => pure (rs1 ++ rs)) s6).post _ _ := z
          exact post_bind.mpr (Res.post.imp (post_bind.mp z2) (fun _ _ z => z) fun _ _ _ z => z)
        · rintro j kk Hc2 ⟨rfl, hj, g6, s6, acc6, accV6, st6, sr6, eo6, eo6', sb6, pr6, hDd6, racc6, nb6, nf6, q9⟩
          obtain ⟨wgo1, wstop1⟩ := wk1 Hc2 g6 sb6 pr6 sr6.sub
          by_cases hlt1 : j < ds1.length
          · refine .inr ⟨(wgo1 j _ (List.getElem?_eq_getElem hlt1)).1, P1 (j + 1), fun H' p' => ⟨ds1.length - (j + 1), by omega, rfl, hlt1, p'⟩, fun v7 H7 y7 => ?_⟩
            obtain ⟨g7, st7, srf7, rv7⟩ := (wgo1 j _ (List.getElem?_eq_getElem hlt1)).2 v7 H7 y7
            have sr7 := srf7 s6 sr6
            have hDd7 := st7.frame _ _ hDd6 nf6
            have nb7 : g7.hb Dd = none := st7.newb Dd nb6 (by rw [hDd6]; simp)
            have nf7 : Dd ∉ g7.fi := fun z => nf6 (st7.newf Dd z (by rw [hDd6]; simp))
            have dr1 : ds1.drop j = ds1[j] :: ds1.drop (j + 1) := (List.drop_eq_getElem_cons hlt1)
            rw [dr1] at q9
            have p1 := post_bind.mp q9
            have p2 := post_bind.mp p1
            have p3 : (f1 ds1[j] s6).post _ (fun _ _ _ => False) := M.nx_post (ex' := fun _ _ _ => False) p2
            have p4 := post_bind.mp p3
            cases etf1 : tf1 ds1[j] s6 with
            | ex c d s7 => rw [etf1] at p4; exact p4.elim
            | bad => rw [etf1] at p4; exact p4.elim
            | ok c s7 =>
            rw [etf1] at p4
            obtain ⟨rfl, hgo1'⟩ := hgo1.go (wipeE env' vs1) (wipe σ' vs1) H7 g7 s6 s7 v7 ds1[j] c _ sr7 ((eo6'.step st7).wiped _) rv7 etf1
            refine hgo1' fun σ'' eo'' hw1 hns1 => ⟨by rw [hw1 _ hsl1, wipe_idem], a, c, tX.mk sr7 eo'' (Res.post.imp (post_bind.mp p4) (fun b s8 p5 b' H8 g8 st8 sr8 eo8 rb => ?_) fun _ _ _ z => z.elim)⟩
            cases rb
            have hDd8 := st8.frame _ _ hDd7 nf7
            have nb8 : g8.hb Dd = none := st8.newb Dd nb7 (by rw [hDd7]; simp)
            have nf8 : Dd ∉ g8.fi := fun z => nf7 (st8.newf Dd z (by rw [hDd7]; simp))
            cases b with
            | false =>
              rw [if_neg Bool.false_ne_true]
              have p6 : ((compM f1 (ds1.drop (j + 1)) >>= fun rs => pure rs) s8).post _ _ := p5
              refine ⟨g8, s8, acc6, accV6, (st6.trans st7).trans st8, sr8, (eo6.step st7).step st8, (eo6'.step st7).step st8, (sb6.trans st7.hb).trans st8.hb, (pr6.trans st7.fi).trans st8.fi, hDd8, (racc6.mono st7.hb st7.fi).mono st8.hb st8.fi, nb8, nf8, ?_⟩
              exact post_bind.mpr (Res.post.imp (post_bind.mp p6) (fun _ _ z => z) fun _ _ _ z => z)
            | true =>
              rw [if_pos rfl]
              refine ⟨a, c, tX.mk sr8 eo8 (Res.post.imp (post_bind.mp p5) (fun y s9 p6 v' H9 g9 st9 sr9 eo9 ry => ?_) fun _ _ _ z => z.elim)⟩
              have hDd9 := st9.frame _ _ hDd8 nf8
              have nb9 : g9.hb Dd = none := st9.newb Dd nb8 (by rw [hDd8]; simp)
              have nf9 : Dd ∉ g9.fi := fun z => nf8 (st9.newf Dd z (by rw [hDd8]; simp))
              have p7 : ((compM f1 (ds1.drop (j + 1)) >>= fun rs1 => compMM f (ds.drop (i + 1)) >>= fun rs => finL (acc6 ++ (y :: rs1 ++ rs))) s9).post OK (fun _ _ _ => False) := by
                have p8 : ((compM f1 (ds1.drop (j + 1)) >>= fun rs => pure (y :: rs)) s9).post _ _ := p6
                exact post_bind.mpr (Res.post.imp (post_bind.mp p8) (fun _ _ z => z) fun _ _ _ z => z)
              have hlen : acc6.length < sizeLine := by
                cases ec : compM f1 (ds1.drop (j + 1)) s9 with
                | ex c d s => have := post_bind.mp p7; rw [ec] at this; exact this.elim
                | bad => have := post_bind.mp p7; rw [ec] at this; exact this.elim
                | ok rs1 s =>
                  have := post_bind.mp p7
                  rw [ec] at this
                  have t2 := post_bind.mp this
                  cases ec2 : compMM f (ds.drop (i + 1)) s with
                  | ex c d s => rw [ec2] at t2; exact t2.elim
                  | bad => rw [ec2] at t2; exact t2.elim
                  | ok rs s' =>
                    rw [ec2] at t2
                    exact finL_len (y := y) (rs := rs1 ++ rs) t2
              have raccA : RepL K g9.fi g9.hb accV6 acc6 := ((racc6.mono st7.hb st7.fi).mono st8.hb st8.fi).mono st9.hb st9.fi
              obtain ⟨stU, srU⟩ := acc_up (o := .lst (accV6 ++ [v'])) (((st6.trans st7).trans st8).trans st9) sr9 hD nb9 nf9
              refine ⟨accV6, hDd9, by rw [raccA.length]; exact hlen, g9, s9, acc6 ++ [y], accV6 ++ [v'], stU, srU, env_up (((eo6.step st7).step st8).step st9) hDd9 ownNe, env_up (((eo6'.step st7).step st8).step st9) hDd9 ownNe', ((sb6.trans st7.hb).trans st8.hb).trans st9.hb, ((pr6.trans st7.fi).trans st8.fi).trans st9.fi, upd_same, raccA.app (.cons ry .nil), nb9, nf9, ?_⟩
              have e : ∀ rs1 rs : List D, acc6 ++ [y] ++ (rs1 ++ rs) = acc6 ++ (y :: rs1 ++ rs) := fun rs1 rs => by simp
              simp only [e]
              exact p7
          · have e : j = ds1.length := by omega
            subst e
            refine .inl ⟨wstop1 _ (Nat.le_refl _), ?_⟩
            rw [List.drop_length] at q9
            exact ⟨g6, s6, acc6, accV6, st6, sr6, eo6, hDd6, racc6, nb6, nf6, q9⟩
    · have e : i = ds.length := by omega
      subst e
      refine .inl ⟨wstop _ (Nat.le_refl _), ?_⟩
      rw [List.drop_length] at q2
      have q3 : (finL (acc ++ []) s2).post _ _ := q2
      unfold finL at q3
      rw [List.append_nil] at q3
      split at q3
      · exact q3 Dd Hc g2 st2 sr2 hD ⟨accV, hDd, racc⟩ nb2 nf2
      · exact q3.elim
end
section
variable {X : Cx} {W : WX} {env : EnvD}
theorem jf_lc2 {α β : Type} {elt tg iter tg1 iter1 : Expr} {ifs ifs1 : List Expr} {scope : Scope} {own : List (Str × Nat)} {vs1 : List Nat} {pos : Pos} {g gg1 : TG} {slots slots1 : List Nat} {tf : D → M α} {ef : EnvD → α → EnvD} {tf1 : D → M β} {ef1 : EnvD → β → EnvD} {mi : M (List D)} {mt : α → M Bool} {mi1 : α → M (List D)} {mt1 : α → β → M Bool} {me : α → β → M D} (hc : X.calm = true) (hN : X.N.Nodup)
    (hi : JIb X W env tg iter mi) (ok : BlkOk X.N X.env.scope scope own) (hv : ∀ i ∈ vs1, i ∈ own.map (·.2)) (hg : ∀ (s : Shared) (H : Hp) (C : Addr) (cl : List (Str × Addr)) (fp : List Addr), PG (X.blk s H scope (compEnvC scope cl C X.env) fp) tg g) (hgo : GOk X.K g slots tf ef) (hsl : ∀ i ∈ slots, i ∈ own.map (·.2))
    (ht : ∀ (s : Shared) (H : Hp) (C : Addr) (cl : List (Str × Addr)) (fp : List Addr) (x : α), PTs (X.blk s H scope (compEnvC scope cl C X.env) fp) ifs (tX X.K (fun _ _ _ _ => False) (ef (wipeE env (own.map (·.2))) x) RT (mt x)))
    (hi1 : ∀ (s : Shared) (H : Hp) (C : Addr) (cl : List (Str × Addr)) (fp : List Addr) (x : α), JI (X.blk s H scope (compEnvC scope cl C X.env) fp) (fun _ _ _ _ => False) (ef (wipeE env (own.map (·.2))) x) tg1 iter1 (mi1 x))
    (hg1 : ∀ (s : Shared) (H : Hp) (C : Addr) (cl : List (Str × Addr)) (fp : List Addr), PG (X.blk s H scope (compEnvC scope cl C X.env) fp) tg1 gg1) (hgo1 : GOk X.K gg1 slots1 tf1 ef1) (hsl1 : ∀ i ∈ slots1, i ∈ vs1)
    (ht1 : ∀ (s : Shared) (H : Hp) (C : Addr) (cl : List (Str × Addr)) (fp : List Addr) (x : α) (y : β), PTs (X.blk s H scope (compEnvC scope cl C X.env) fp) ifs1 (tX X.K (fun _ _ _ _ => False) (ef1 (wipeE (ef (wipeE env (own.map (·.2))) x) vs1) y) RT (mt1 x y)))
    (he : ∀ (s : Shared) (H : Hp) (C : Addr) (cl : List (Str × Addr)) (fp : List Addr) (x : α) (y : β), JE (X.blk s H scope (compEnvC scope cl C X.env) fp) (fun _ _ _ _ => False) (ef1 (wipeE (ef (wipeE env (own.map (·.2))) x) vs1) y) elt (me x y))
    (hs : ∀ x, foldedSetIterable iter X.env x = pure x := by intro _; rfl) (hs1 : ∀ env x, foldedSetIterable iter1 env x = pure x := by intro _ _; rfl) :
    JF X W env (.ListComp elt [⟨tg, iter, ifs, 0⟩, ⟨tg1, iter1, ifs1, 0⟩] scope pos) (mi >>= comp2 (f2 tf mt mi1 tf1 mt1 me)) := by
  have ht' : ∀ (s : Shared) (H : Hp) (C : Addr) (cl : List (Str × Addr)) (fp : List Addr), PTs (X.blk s H scope (compEnvC scope cl C X.env) fp) ifs (lcT X.K env (own.map (·.2)) ef mt) := fun s H C cl fp => ⟨fun pins s' σ H' Q I ⟨x, h⟩ => (ht s H C cl fp x).run pins s' σ H' Q I h⟩
  have hi' : ∀ (s : Shared) (H : Hp) (C : Addr) (cl : List (Str × Addr)) (fp : List Addr), PI (X.blk s H scope (compEnvC scope cl C X.env) fp) tg1 iter1 (lcI X.K env (own.map (·.2)) ef mi1) := fun s H C cl fp => ⟨fun pins s' σ H' R I ⟨x, h⟩ => (hi1 s H C cl fp x).run pins s' σ H' R I h⟩
  have ht1' : ∀ (s : Shared) (H : Hp) (C : Addr) (cl : List (Str × Addr)) (fp : List Addr), PTs (X.blk s H scope (compEnvC scope cl C X.env) fp) ifs1 (lcT2 X.K env (own.map (·.2)) vs1 ef ef1 mt1) := fun s H C cl fp => ⟨fun pins s' σ H' Q I ⟨x, y, h⟩ => (ht1 s H C cl fp x y).run pins s' σ H' Q I h⟩
  have he' : ∀ (s : Shared) (H : Hp) (C : Addr) (cl : List (Str × Addr)) (fp : List Addr), PE (X.blk s H scope (compEnvC scope cl C X.env) fp) elt (lcE2 X.K env (own.map (·.2)) vs1 ef ef1 me) := fun s H C cl fp => ⟨fun pins s' σ H' Q I ⟨x, y, h⟩ => (he s H C cl fp x y).run pins s' σ H' Q I h⟩
  exact PE.imp (pe_lc2 hc hN hi ok hv hg ht' hi' hg1 ht1' he' hs hs1) fun σ H Q h => lc2_imp hgo hsl hgo1 hsl1 h
end
section
variable {X : Cx} {W : WX} {xe env : EnvD} {γ : Type} {dec : γ → Flo} {U : TS} {rest : List Stmt}
theorem jc_setOwnLc2 (i : Nat) {x : Str} {pos' cpos spos : Pos} {k : D → M γ} {α β : Type} {elt tg iter tg1 iter1 : Expr} {ifs ifs1 : List Expr} {scope : Scope} {own : List (Str × Nat)} {vs1 : List Nat} {g gg1 : TG} {slots slots1 : List Nat} {tf : D → M α} {ef : EnvD → α → EnvD} {tf1 : D → M β} {ef1 : EnvD → β → EnvD} {mi : M (List D)} {mt : α → M Bool} {mi1 : α → M (List D)} {mt1 : α → β → M Bool} {me : α → β → M D} (w : Weak xe env) (hc : X.calm = true) (hN : X.N.Nodup) (hsw : swapsWith (.ListComp elt [⟨tg, iter, ifs, 0⟩, ⟨tg1, iter1, ifs1, 0⟩] scope cpos) (some (.Name x pos')) spos.line X.env = pure true)
    (hi : JIb X W env tg iter mi) (ok : BlkOk X.N X.env.scope scope own) (hv : ∀ i ∈ vs1, i ∈ own.map (·.2)) (hg : ∀ (s : Shared) (H : Hp) (C : Addr) (cl : List (Str × Addr)) (fp : List Addr), PG (X.blk s H scope (compEnvC scope cl C X.env) fp) tg g) (hgo : GOk X.K g slots tf ef) (hsl : ∀ i ∈ slots, i ∈ own.map (·.2))
    (ht : ∀ (s : Shared) (H : Hp) (C : Addr) (cl : List (Str × Addr)) (fp : List Addr) (x : α), PTs (X.blk s H scope (compEnvC scope cl C X.env) fp) ifs (tX X.K (fun _ _ _ _ => False) (ef (wipeE env (own.map (·.2))) x) RT (mt x)))
    (hi1 : ∀ (s : Shared) (H : Hp) (C : Addr) (cl : List (Str × Addr)) (fp : List Addr) (x : α), JI (X.blk s H scope (compEnvC scope cl C X.env) fp) (fun _ _ _ _ => False) (ef (wipeE env (own.map (·.2))) x) tg1 iter1 (mi1 x))
    (hg1 : ∀ (s : Shared) (H : Hp) (C : Addr) (cl : List (Str × Addr)) (fp : List Addr), PG (X.blk s H scope (compEnvC scope cl C X.env) fp) tg1 gg1) (hgo1 : GOk X.K gg1 slots1 tf1 ef1) (hsl1 : ∀ i ∈ slots1, i ∈ vs1)
    (ht1 : ∀ (s : Shared) (H : Hp) (C : Addr) (cl : List (Str × Addr)) (fp : List Addr) (x : α) (y : β), PTs (X.blk s H scope (compEnvC scope cl C X.env) fp) ifs1 (tX X.K (fun _ _ _ _ => False) (ef1 (wipeE (ef (wipeE env (own.map (·.2))) x) vs1) y) RT (mt1 x y)))
    (he : ∀ (s : Shared) (H : Hp) (C : Addr) (cl : List (Str × Addr)) (fp : List Addr) (x : α) (y : β), JE (X.blk s H scope (compEnvC scope cl C X.env) fp) (fun _ _ _ _ => False) (ef1 (wipeE (ef (wipeE env (own.map (·.2))) x) vs1) y) elt (me x y))
    (hr : ∀ d, JC X W xe (env.set i (some (.own d))) rest U (k d) dec)
    (hs : ∀ x, foldedSetIterable iter X.env x = pure x := by intro _; rfl) (hs1 : ∀ env x, foldedSetIterable iter1 env x = pure x := by intro _ _; rfl) (hy : X.N[i]? = some x := by rfl) (hyl : X.env.scope.names.lookup x = some .local := by rfl) :
    JC X W xe env (.Assign [.Name x pos'] (.ListComp elt [⟨tg, iter, ifs, 0⟩, ⟨tg1, iter1, ifs1, 0⟩] scope cpos) spos :: rest) U ((mi >>= comp2 (f2 tf mt mi1 tf1 mt1 me)) >>= k) dec := by
  have ht' : ∀ (s : Shared) (H : Hp) (C : Addr) (cl : List (Str × Addr)) (fp : List Addr), PTs (X.blk s H scope (compEnvC scope cl C X.env) fp) ifs (lcT X.K env (own.map (·.2)) ef mt) := fun s H C cl fp => ⟨fun pins s' σ H' Q I ⟨x, h⟩ => (ht s H C cl fp x).run pins s' σ H' Q I h⟩
  have hi' : ∀ (s : Shared) (H : Hp) (C : Addr) (cl : List (Str × Addr)) (fp : List Addr), PI (X.blk s H scope (compEnvC scope cl C X.env) fp) tg1 iter1 (lcI X.K env (own.map (·.2)) ef mi1) := fun s H C cl fp => ⟨fun pins s' σ H' R I ⟨x, h⟩ => (hi1 s H C cl fp x).run pins s' σ H' R I h⟩
  have ht1' : ∀ (s : Shared) (H : Hp) (C : Addr) (cl : List (Str × Addr)) (fp : List Addr), PTs (X.blk s H scope (compEnvC scope cl C X.env) fp) ifs1 (lcT2 X.K env (own.map (·.2)) vs1 ef ef1 mt1) := fun s H C cl fp => ⟨fun pins s' σ H' Q I ⟨x, y, h⟩ => (ht1 s H C cl fp x y).run pins s' σ H' Q I h⟩
  have he' : ∀ (s : Shared) (H : Hp) (C : Addr) (cl : List (Str × Addr)) (fp : List Addr), PE (X.blk s H scope (compEnvC scope cl C X.env) fp) elt (lcE2 X.K env (own.map (·.2)) vs1 ef ef1 me) := fun s H C cl fp => ⟨fun pins s' σ H' Q I ⟨x, y, h⟩ => (he s H C cl fp x y).run pins s' σ H' Q I h⟩
  exact PSs.step (ps_setLc2 hc hN hy hyl hsw hi ok hv hg ht' hi' hg1 ht1' he' hs hs1) (nexts_run (f := fun d => env.set i (some (.own d))) (k := k) hr) fun D1 σ H ⟨Dn, e1, H0, g0, gg, s, st0, sr, eo, fr, q⟩ => lc2_imp hgo hsl hgo1 hsl1 (own_next w e1 st0 sr eo fr q)
theorem jc_setLc2 (i : Nat) {x : Str} {pos' cpos spos : Pos} {k : D → M γ} {α β : Type} {elt tg iter tg1 iter1 : Expr} {ifs ifs1 : List Expr} {scope : Scope} {own : List (Str × Nat)} {vs1 : List Nat} {g gg1 : TG} {slots slots1 : List Nat} {tf : D → M α} {ef : EnvD → α → EnvD} {tf1 : D → M β} {ef1 : EnvD → β → EnvD} {mi : M (List D)} {mt : α → M Bool} {mi1 : α → M (List D)} {mt1 : α → β → M Bool} {me : α → β → M D} (w : Weak xe env) (hc : X.calm = true) (hN : X.N.Nodup) (hsw : swapsWith (.ListComp elt [⟨tg, iter, ifs, 0⟩, ⟨tg1, iter1, ifs1, 0⟩] scope cpos) (some (.Name x pos')) spos.line X.env = pure true)
    (hi : JIb X W env tg iter mi) (ok : BlkOk X.N X.env.scope scope own) (hv : ∀ i ∈ vs1, i ∈ own.map (·.2)) (hg : ∀ (s : Shared) (H : Hp) (C : Addr) (cl : List (Str × Addr)) (fp : List Addr), PG (X.blk s H scope (compEnvC scope cl C X.env) fp) tg g) (hgo : GOk X.K g slots tf ef) (hsl : ∀ i ∈ slots, i ∈ own.map (·.2))
    (ht : ∀ (s : Shared) (H : Hp) (C : Addr) (cl : List (Str × Addr)) (fp : List Addr) (x : α), PTs (X.blk s H scope (compEnvC scope cl C X.env) fp) ifs (tX X.K (fun _ _ _ _ => False) (ef (wipeE env (own.map (·.2))) x) RT (mt x)))
    (hi1 : ∀ (s : Shared) (H : Hp) (C : Addr) (cl : List (Str × Addr)) (fp : List Addr) (x : α), JI (X.blk s H scope (compEnvC scope cl C X.env) fp) (fun _ _ _ _ => False) (ef (wipeE env (own.map (·.2))) x) tg1 iter1 (mi1 x))
    (hg1 : ∀ (s : Shared) (H : Hp) (C : Addr) (cl : List (Str × Addr)) (fp : List Addr), PG (X.blk s H scope (compEnvC scope cl C X.env) fp) tg1 gg1) (hgo1 : GOk X.K gg1 slots1 tf1 ef1) (hsl1 : ∀ i ∈ slots1, i ∈ vs1)
    (ht1 : ∀ (s : Shared) (H : Hp) (C : Addr) (cl : List (Str × Addr)) (fp : List Addr) (x : α) (y : β), PTs (X.blk s H scope (compEnvC scope cl C X.env) fp) ifs1 (tX X.K (fun _ _ _ _ => False) (ef1 (wipeE (ef (wipeE env (own.map (·.2))) x) vs1) y) RT (mt1 x y)))
    (he : ∀ (s : Shared) (H : Hp) (C : Addr) (cl : List (Str × Addr)) (fp : List Addr) (x : α) (y : β), JE (X.blk s H scope (compEnvC scope cl C X.env) fp) (fun _ _ _ _ => False) (ef1 (wipeE (ef (wipeE env (own.map (·.2))) x) vs1) y) elt (me x y))
    (hr : ∀ d, JC X W xe (env.set i (some (.val d))) rest U (k d) dec)
    (hs : ∀ x, foldedSetIterable iter X.env x = pure x := by intro _; rfl) (hs1 : ∀ env x, foldedSetIterable iter1 env x = pure x := by intro _ _; rfl) (hy : X.N[i]? = some x := by rfl) (hyl : X.env.scope.names.lookup x = some .local := by rfl) (hl : i < env.length := by decide) :
    JC X W xe env (.Assign [.Name x pos'] (.ListComp elt [⟨tg, iter, ifs, 0⟩, ⟨tg1, iter1, ifs1, 0⟩] scope cpos) spos :: rest) U ((mi >>= comp2 (f2 tf mt mi1 tf1 mt1 me)) >>= k) dec :=
  jc_setOwnLc2 i w hc hN hsw hi ok hv hg hgo hsl ht hi1 hg1 hgo1 hsl1 ht1 he (fun d => jc_freeze i (List.getElem?_set_self hl) (by rw [List.set_set]; exact hr d)) hs hs1 hy hyl
end
end DL

set_option maxRecDepth 100000
set_option autoImplicit false
/-! DL25: raise X(), X an own class without fields. -/
namespace DL
open PySem PySem.Spec PyProof.Rows L2
section
variable {X : Cx}
/-- X(), X an own exception class without own __init__ -/
theorem pmk_own0 {C : Addr} {bmB : List Value} {B newId initId : String} {x : Str} {p pos : Pos} (F : ExcBaseFacts B newId initId bmB) (q : PySem.W.excIn X.K C bmB newId = true) (gC : X.mg x = some (.ref C))
    (kC : PySem.W.keepIn X.K (.ref C) = true) (r : Raises X (.ref C)) (hg : Gl X x) (hdb : (x == ("__debug__" : Str)) = false := by decide) :
    PMk X (.Call (.Name x p) [] [] pos) (fun σ H Q => Q (.ref C) none H) := by
  intro pins s σ H Q I h
  refine wpAny_Call_Name_kw (ld_glob I hg gC ?_ hdb)
  refine PySem.W.callWith_K0 I.kIn kC ?_
  show wpAny _ _ (call (.ref C) []) _ _ _
  obtain ⟨bm, N, nm, qn, bs, hdct, sn, sub, ab, col, dd, k0, k1, k2, k3, k5, mN, hC, hN, hni, T⟩ := exc_obj I.kIn q
  obtain ⟨hp1, g1, d1, tk1, os1⟩ := s
  refine wpAny_call_exc_subT F T hC hN hni (fun h' e hm => ?_) (Nat.zero_le _)
  exact mk_of I hm r h (I.hok.gone hm.new)
end
section
variable {X : Cx} {W : WX} {xe env : EnvD} {α : Type} {dec : α → Flo} {U : TS} {rest : List Stmt}
/-- what the written part says of a class without fields -/
structure Ex0 (K : PySem.W.Frag) (mg : Str → Option Value) (x : Str) : Prop where
  gC : mg x = some (.ref (He.ga K x))
  ex : ∃ (B newId initId : String) (bmB : List Value), ExcBaseFacts B newId initId bmB ∧ PySem.W.excIn K (He.ga K x) bmB newId = true
  kC : PySem.W.keepIn K (.ref (He.ga K x)) = true
  exC : PySem.W.subIn K (.ref (He.ga K x)) (.type "BaseException") = some true
  tyC : PySem.W.typeIn K (.ref (He.ga K x)) = some (.type "type")
theorem jc_raise0 {cx : Str} {p p1 pos : Pos} (hc : X.calm = true) (T : Ex0 X.K X.mg cx) (tk : Takes X W) (w : Weak xe env) (hg : Gl X cx := by rfl) (hdb : (cx == ("__debug__" : Str)) = false := by decide) :
    JC X W xe env (.Raise (some (.Call (.Name cx p) [] [] p1)) none pos :: rest) U (M.exc cx []) dec := by
  obtain ⟨B, n, i, bm, F, q⟩ := T.ex
  exact PSs.step (ps_raise hc tk (pmk_own0 F q T.gC T.kC (raises_own T.exC T.tyC) hg hdb)) pss_never fun D1 σ H ⟨D, e1, H0, g0, g, s, st0, sr, eo, fr, q⟩ =>
    q σ _ g none st0 sr (eo.weak w) (fr.weak w) (.inl rfl)
end
end DL

set_option maxRecDepth 100000
set_option autoImplicit false
/-! DL26: sorted(xs, key=lambda a: ..): the sort by keys that hold lists, over the heap. -/
namespace DLS
open PySem PySem.Calls PyProof.Rows PySem.W
/-- kept, but for the slots of the frames fs -/
def KU (fs : List Addr) (s s' : Shared) : Prop := s'.os = s.os ∧ AllBare s'.gens ∧ ∀ b o, s.heap.get? b = some o → (b ∉ fs → s'.heap.get? b = some o) ∧ ∃ sl, s'.heap.get? b = some { o with slots := sl }
theorem KU.trans {fs : List Addr} {s s1 s2 : Shared} (a : KU fs s s1) (b : KU fs s1 s2) : KU fs s s2 :=
  ⟨b.1.trans a.1, b.2.1, fun x o h => by
    obtain ⟨h1, sl, h2⟩ := a.2.2 x o h
    refine ⟨fun n => (b.2.2 x o (h1 n)).1 n, ?_⟩
    obtain ⟨_, sl', h3⟩ := b.2.2 x _ h2
    exact ⟨sl', h3⟩⟩
theorem KU.heap {fs : List Addr} {s s1 : Shared} {h' : Heap} {tk : Nat} (a : KU fs s s1) (k : ∀ b o u, s.heap.get? b = some u → s1.heap.get? b = some o → h'.get? b = some o) : KU fs s { s1 with heap := h', toks := tk } :=
  ⟨a.1, a.2.1, fun x o h => by
    obtain ⟨h1, sl, h2⟩ := a.2.2 x o h
    exact ⟨fun n => k _ _ _ h (h1 n), sl, k _ _ _ h h2⟩⟩
theorem KU.refl {fs : List Addr} {s : Shared} (hb : AllBare s.gens) : KU fs s s := ⟨rfl, hb, fun b o h => ⟨fun _ => h, o.slots, h⟩⟩
mutual
theorem reads_slots {h h' : Heap} (k : ∀ b o, h.get? b = some o → ∃ sl, h'.get? b = some { o with slots := sl }) : ∀ (d : PyData) (v : Value) (as : List Addr), alike d d = true → Reads h v d as → Reads h' v d as
  | .none, _, _, _, r => by cases r; exact .none
  | .bool _, _, _, _, r => by cases r; exact .bool _
  | .int _, _, _, _, r => by cases r; exact .int _ _
  | .str _, _, _, _, r => by cases r; exact .str _ _
  | .list xs, _, _, hal, r => by
    cases r with
    | list h1 h2 h3 h4 =>
      obtain ⟨sl, e⟩ := k _ _ h1
      exact .list e h2 h3 (readsAll_slots k xs _ _ (by simpa [alike] using hal) h4)
  | .tuple xs, _, _, hal, r => by
    cases r with
    | tuple h1 h2 h3 h4 =>
      obtain ⟨sl, e⟩ := k _ _ h1
      exact .tuple e h2 h3 (readsAll_slots k xs _ _ (by simpa [alike] using hal) h4)
  | .dict _, _, _, hal, _ => absurd hal (by simp [alike])
theorem readsAll_slots {h h' : Heap} (k : ∀ b o, h.get? b = some o → ∃ sl, h'.get? b = some { o with slots := sl }) : ∀ (ds : List PyData) (vs : List Value) (as : List Addr), alikeAll ds ds = true → ReadsAll h vs ds as → ReadsAll h' vs ds as
  | [], _, _, _, r => by cases r; exact .nil
  | d :: ds, _, _, hal, r => by
    cases r with
    | cons h1 h2 => exact .cons (reads_slots k d _ _ (alike_all_cons hal).1 h1) (readsAll_slots k ds _ _ (alike_all_cons hal).2 h2)
end
/-- a call that gives the key k -/
def KeyP (fs : List Addr) (s₀ : Shared) (k : PyData) (s₁ : Shared) (v : Value) (s₂ : Shared) : Prop := KU fs s₁ s₂ ∧ ∃ as, Reads s₂.heap v k as ∧ ∀ x ∈ as, s₁.heap.get? x = none ∨ ∃ o, s₀.heap.get? x = some o
section
variable {prog : Program} {w : World} {A : Around} {E : Value → Shared → Prop} {s s₀ : Shared} {a kS : Addr} {b : Bool} {vs : List Value} {e e1 : Nat} {P : PySem.Fin → Shared → Prop} {kz : List PyData} {fs : List Addr}
theorem keyU_rest {f : Value} (ku : KU fs s₀ s) (hkS : s₀.heap.get? kS = none) (ha : s₀.heap.get? a = none) (hfs : ∀ x ∈ fs, ∃ o, s₀.heap.get? x = some o) (nk : s.heap.get? kS = some (seqObj "list" #[] 0)) (na : s.heap.get? a = some (seqObj "list" #[] e1)) (hka : kS ≠ a)
    (hlen : kz.length = vs.length) (hZ : vs.length ≤ sizeLine) (hal : AllAlike kz) (hsk : Sortable kz) (hu : ∀ d, d ∈ kz → A.units + d.depth < cLine)
    (turn : ∀ (i : Nat) (v : Value) (k : PyData), vs[i]? = some v → kz[i]? = some k → ∀ s₁, KU fs s₀ s₁ → wpAny (model prog w) A (call f [v]) (KeyP fs s₀ k s₁) (fun _ _ => False) s₁)
    (h : ∀ s' out c, KU fs s₀ s' → s'.heap.get? a = some (seqObj "list" (List.toArray out) c) → KeyedOut b kz vs out → P (.done (.ret .none)) s') :
    wpAny (model prog w) A (ksk_rest a f b vs.toArray e1 (.ref kS)) P E s := by
  have nfk : kS ∉ fs := fun z => by obtain ⟨o, q⟩ := hfs _ z; rw [hkS] at q; cases q
  have nfa : a ∉ fs := fun z => by obtain ⟨o, q⟩ := hfs _ z; rw [ha] at q; cases q
  unfold ksk_rest
  refine wpAny_bind (wpAny_rule ?_)
  first
    | rw [List.forIn_toArray]
    | (rw [← Array.forIn_toList]; simp only [List.toList_toArray])
    | rw [← Array.forIn_toList]
  refine wpAny_bind (ksk_fold (fun i s' => ∃ kA e, KU fs s₀ s' ∧ s'.heap.get? kS = some (seqObj "list" kA e) ∧ s'.heap.get? a = some (seqObj "list" #[] e1) ∧ EachIs (fun v k => (∃ as, Reads s'.heap v k as ∧ ∀ x ∈ as, x ≠ kS ∧ x ≠ a) ∧ alike k k = true) kA.toList (kz.take i)) vs 0 s
    ⟨#[], 0, ku, nk, na, by rw [List.take_zero]; exact EachIs.nil⟩ ?step ?done)
  case step =>
    rintro j x s' hx ⟨kA, e, ku', nk', na', hk⟩
    simp only [Nat.zero_add] at hk ⊢
    have hj : j < vs.length := (List.getElem?_eq_some_iff.mp hx).1
    obtain ⟨k, hkj⟩ : ∃ k, kz[j]? = some k := ⟨_, List.getElem?_eq_getElem (by omega)⟩
    have hkk : alike k k = true := hal k (List.mem_of_getElem? hkj) k (List.mem_of_getElem? hkj)
    have hz : kA.size ≤ vs.length := by
      have h1 := hk.length
      rw [Array.length_toList, List.length_take] at h1
      omega
    refine wpAny_bind (wpAny_attempt (wpAny_mono (turn j x k hx hkj s' ku') (fun v s'' he => ?_) fun _ _ hF => hF.elim))
    obtain ⟨k2, as, hr, has⟩ := he
    try dsimp only
    have nk2 : s''.heap.get? kS = some (seqObj "list" kA e) := (k2.2.2 _ _ nk').1 nfk
    have na2 : s''.heap.get? a = some (seqObj "list" #[] e1) := (k2.2.2 _ _ na').1 nfa
    have has' : ∀ x ∈ as, x ≠ kS ∧ x ≠ a := fun x hx => by
      refine ⟨fun z => ?_, fun z => ?_⟩ <;> rw [z] at hx
      · rcases has _ hx with q | ⟨o, q⟩
        · rw [nk'] at q; cases q
        · rw [hkS] at q; cases q
      · rcases has _ hx with q | ⟨o, q⟩
        · rw [na'] at q; cases q
        · rw [ha] at q; cases q
    have s1 := Heap.SameBut.update s''.heap kS (Obj.mapSeq (·.push v))
    obtain ⟨c2, hc2⟩ : ∃ c2, (s''.heap.update kS (Obj.mapSeq (·.push v))).get? kS = some (seqObj "list" (kA.push v) c2) := ⟨_, get?_update_seq nk2 (·.push v)⟩
    have ek : kz.take (j + 1) = kz.take j ++ [k] := by rw [List.take_add_one, hkj]; simp
    have ea : (kA.push v).toList = kA.toList ++ [v] := by simp
    refine wpAny_bind (listUpdate_at nk2 rfl ?_ (Nat.le_trans hz hZ) (Nat.le_trans (Nat.le_of_eq (Array.size_push ..)) (Nat.succ_le_succ (Nat.le_trans hz hZ))))
    have keepS : ∀ (u : Value) (d : PyData), (∃ as, Reads s''.heap u d as ∧ ∀ x ∈ as, x ≠ kS ∧ x ≠ a) ∧ alike d d = true → (∃ as, Reads (s''.heap.update kS (Obj.mapSeq (·.push v))) u d as ∧ ∀ x ∈ as, x ≠ kS ∧ x ≠ a) ∧ alike d d = true := fun u d q => by
      obtain ⟨⟨as, q1, q2⟩, q3⟩ := q
      exact ⟨⟨as, Reads.keepBut (a := kS) (fun b o hb e => (s1.2 b hb).trans e) (fun o e => by rw [nk2] at e; rw [← Option.some.inj e]) d u as q3 q1 fun z => (q2 _ z).1 rfl, q2⟩, q3⟩
    refine wpAny_pure ⟨rfl, kA.push v, c2, ?_, hc2, (s1.2 a hka.symm).trans na2, ?_⟩
    · exact KU.heap (tk := s''.toks) (ku'.trans k2) fun b o u hu hb => (s1.2 b fun z => by rw [z, hkS] at hu; cases hu).trans hb
    · rw [ea, ek]
      refine each_snoc (R := fun (u : Value) (d : PyData) => (∃ as, Reads (s''.heap.update kS (Obj.mapSeq (·.push v))) u d as ∧ ∀ x ∈ as, x ≠ kS ∧ x ≠ a) ∧ alike d d = true) (keepS v k ⟨⟨as, hr, has'⟩, hkk⟩) ?_
      exact hk.mono fun u d q => keepS u d (by
        obtain ⟨⟨as, q1, q2⟩, q3⟩ := q
        exact ⟨⟨as, reads_slots (fun b o e => (k2.2.2 b o e).2) d u as q3 q1, q2⟩, q3⟩)
  case done =>
    rintro s' ⟨kA, e, ku', nk', na', hk⟩
    have hk' : EachIs (fun v k => ∃ as, Reads s'.heap v k as) kA.toList kz := by
      have e3 : kz.take (0 + vs.length) = kz := List.take_of_length_le (by omega)
      rw [e3] at hk
      exact hk.mono fun v k q => let ⟨⟨as, q1, _⟩, _⟩ := q; ⟨as, q1⟩
    have hsz : kA.size = vs.length := by
      have h1 := hk'.length
      rw [Array.length_toList] at h1
      omega
    try dsimp only
    refine wpAny_bind (listItems_at nk' rfl ?_)
    obtain ⟨G, g1, g2⟩ := L2.restrict s'.heap fun x => !(x == kS) && !(x == a)
    have gk : G.get? kS = none := g2 _ (by simp)
    have gs : ∀ b o, G.get? b = some o → s'.heap.get? b = some o := fun b o hb => by
      cases q : (!(b == kS) && !(b == a)) with
      | true => rw [← g1 b q]; exact hb
      | false => rw [g2 b q] at hb; cases hb
    exact keyH_end (κ := dataKind s'.heap kz) (h₁ := G) (fun b o _ hb => gs b o hb) gk nk' na' hka (SortsAt.data (s := s') hk' hal hsk hu) hsz hZ fun h3 tk3 c k3 n3 => h { s' with heap := h3, toks := tk3 } _ c (KU.heap ku' fun b o u hu hb => by
      have n1 : b ≠ kS := fun z => by rw [z, hkS] at hu; cases hu
      have n2 : b ≠ a := fun z => by rw [z, ha] at hu; cases hu
      exact k3 b o n2 (by rw [g1 b (by simp [n1, n2])]; exact hb)) n3 ⟨s'.heap, kA.toList, hal, rfl, hk'⟩
theorem keyU_tree {f : Value} {n : Nat} (ku : KU fs s₀ s) (ha0 : s₀.heap.get? a = none) (hfs : ∀ x ∈ fs, ∃ o, s₀.heap.get? x = some o) (ho : s.heap.get? a = some (seqObj "list" vs.toArray n)) (hlen : kz.length = vs.length) (hZ : vs.length ≤ sizeLine) (hal : AllAlike kz) (hsk : Sortable kz) (hu : ∀ d, d ∈ kz → A.units + d.depth < cLine)
    (turn : ∀ (i : Nat) (v : Value) (k : PyData), vs[i]? = some v → kz[i]? = some k → ∀ s₁, KU fs s₀ s₁ → wpAny (model prog w) A (call f [v]) (KeyP fs s₀ k s₁) (fun _ _ => False) s₁)
    (h : ∀ s' out c, KU fs s₀ s' → s'.heap.get? a = some (seqObj "list" (List.toArray out) c) → KeyedOut b kz vs out → P (.done (.ret .none)) s') :
    wpAny (model prog w) A (ksk_tree a f b) P E s := by
  have ha : a < s.heap.objs.size := Heap.lt_size ho
  obtain ⟨e1, ho1⟩ : ∃ e1, (s.heap.update a (Obj.mapSeq fun _ => (#[] : Array Value))).get? a = some (seqObj "list" #[] e1) := ⟨_, get?_update_seq ho fun _ => #[]⟩
  have hkS : ((s.heap.update a (Obj.mapSeq fun _ => (#[] : Array Value))).push (seqObj "tuple" vs.toArray 0)).objs.size = s.heap.objs.size + 1 := by rw [size_push', Heap.size_update]
  unfold ksk_tree
  refine wpAny_bind (listItems_at ho rfl ?_)
  refine wpAny_bind (listUpdate_at ho rfl ?_ (by rw [List.size_toArray]; exact hZ) (Nat.zero_le _))
  refine wpAny_bind (seqEpoch_at ho1 rfl ?_)
  refine wpAny_bind (wpAny_newTuple ?_ (by show vs.length ≤ _; exact hZ))
  refine wpAny_bind (wpAny_newList ?_ (Nat.zero_le _))
  refine wpAny_holding ?_
  have kn : s₀.heap.get? (s.heap.objs.size + 1) = none := by
    cases q : s₀.heap.get? (s.heap.objs.size + 1) with
    | none => rfl
    | some o =>
      obtain ⟨_, sl, e⟩ := ku.2.2 _ _ q
      exact absurd (Heap.lt_size e) (Nat.not_lt.mpr (Nat.le_succ _))
  refine keyU_rest (kz := kz) (s₀ := s₀) (fs := fs) (s := { s with heap := ((s.heap.update a (Obj.mapSeq fun _ => (#[] : Array Value))).push (seqObj "tuple" vs.toArray 0)).push (seqObj "list" #[] 0) }) (kS := ((s.heap.update a (Obj.mapSeq fun _ => (#[] : Array Value))).push (seqObj "tuple" vs.toArray 0)).objs.size)
    (KU.heap (tk := s.toks) ku fun b o u hu hb => sortingHeap_old (fun z => by rw [z, ha0] at hu; cases hu) hb) (by rw [hkS]; exact kn) ha0 hfs (Heap.get?_push_size _ rfl) (Heap.get?_push_of_some _ (Heap.get?_push_of_some _ ho1)) (by rw [hkS]; exact Nat.ne_of_gt (Nat.lt_succ_of_lt ha)) hlen hZ hal hsk hu turn h
end
section
variable {prog : Program} {w : World} {A : Around} {E : Value → Shared → Prop} {s : Shared} {fs : List Addr}
/-- sorted(xs, ..), xs a list or a tuple -/
theorem sortedQ_of {l : Addr} {T : String} {o : Obj} {items : Array Value} {n : Nat} {kw : List (Str × Value)} {Q : Value → Shared → Prop} (hT : T = "list" ∨ T = "tuple") (ho : s.heap.get? l = some o) (hc : o.cls = .type T) (hd : o.data = .seq items n) (hL : items.size ≤ sizeLine)
    (ha1 : argsOk "sorted" ⟨[.ref l], kw⟩) (ha2 : ∀ x, argsOk "list.sort" ⟨[.ref x], kw⟩)
    (body : ∀ (h' : Heap) (E' : Value → Shared → Prop), (∀ b o', s.heap.get? b = some o' → h'.get? b = some o') → wpAny (model prog w) A.in1.in1 (Builtin.«list.sort» ⟨[.ref h'.objs.size], kw⟩) (fun f s' => f = .done (.ret .none) ∧ Q (.ref h'.objs.size) s') E' { s with heap := h'.push (seqObj "list" items 0) }) :
    wpAny (model prog w) A (call (.builtin "sorted") [.ref l] kw) Q E s := by
  refine call_function_entry_kw kind_sorted plain_sorted entry_sorted ha1 ?_
  unfold Builtin.«sorted»
  refine wpAny_bind (m := checkCount "sorted" 1 1 _) (wpAny_pure ?_)
  refine wpAny_bind (wpAny_collect_seq (hsz := hL) l hT ho hc hd fun h' hk => ?_)
  refine wpAny_bind (wpAny_newList ?_ (by rw [Array.length_toList]; exact hL))
  have hob : (h'.push { cls := .type "list", data := .seq items.toList.toArray }).get? h'.objs.size = some (seqObj "list" items 0) := by
    rw [Array.toArray_toList]; exact Heap.get?_push_size _ rfl
  refine wpAny_bind (wpAny_holding (wpAny_call_entry_kw slot_list_sort ⟨_, hob, rfl⟩ entry_list_sort ?body (ha2 _)))
  case body =>
    rw [Array.toArray_toList]
    show wpAny (model prog w) A.in1.in1 (Builtin.«list.sort» ⟨[.ref h'.objs.size], kw⟩) _ _ _
    refine wpAny_mono (body h' _ hk) (fun f s' hf => ?_) fun _ _ e => e
    obtain ⟨rfl, hq⟩ := hf
    exact ⟨_, rfl, wpAny_pure ⟨_, rfl, hq⟩⟩
end
end DLS

set_option maxRecDepth 100000
set_option autoImplicit false
/-! DL27: a lambda with one parameter as a key: made, called; sorted(xs, key=lambda a: ..), sorted(xs) of lists and tuples. -/
namespace DL
open PySem PySem.Spec PyProof.Rows L2
/-! ### the code objects -/
/-- the code object of the def x -/
def ca (K : PySem.W.Frag) (x : Str) : Addr := match K.lookup (He.ga K x) with
  | some ⟨_, _, .func fd, _⟩ => (match fd.code with
    | Value.ref c => c
    | _ => 0)
  | _ => 0
theorem ca_eq {K : PySem.W.Frag} {x q : Str} {fd : FuncData} {oc : Value} {od : Option Addr} {osl : Array (Option Value)} (lk : K.lookup (He.ga K x) = some ⟨oc, od, .func fd, osl⟩) (h : PySem.W.codeIn K fd.code q = true) : fd.code = .ref (ca K x) := by
  unfold ca
  rw [lk]
  dsimp only
  unfold PySem.W.codeIn at h
  cases e : fd.code with
  | ref c => rfl
  | _ => rw [e] at h; cases h
/-! ### a def that makes lambdas -/
theorem DF.ofT {P : Program} {w : World} {K : PySem.W.Frag} {mg : Str → Option Value} {base : Heap} {k : Nat} {x : Str} {st : Stmt} {N ps : List Str} {m : List D → M D} {fd : FuncData} (F : FunD K x x (defArgs st) (defBody st) (defScope st) [] [] (He.ga K x) fd) (hx : mg x = some (.ref (He.ga K x))) (S : FnScope N ps (defScope st))
    (hb : ∀ (kV doc pm : Value) (an : Option Addr) (cdv ct : Value) (us : List Value), us.length = ps.length → bindArgs (PySem.W.fnOf x x (defArgs st) (defBody st) (defScope st) .none kV doc pm an cdv ct) ⟨us, []⟩ = pure (ps.zip us))
    (ar : ∀ ds s, ds.length ≠ ps.length → m ds s = .bad)
    (body : ∀ (cdv : Value) (A : Around) (outer : List Env) (s : Shared) (H : Hp) (E : XK) (ds : List D), cdv = .ref (ca K x) → ds.length = ps.length → Room k (A.deeper (envOfC x (defScope st) s.heap.objs.size (He.ga K x) cdv)) →
      JC (cxOf (L2.CX P w) P w K mg base N x (defScope st) (He.ga K x) cdv A outer s H E) (fun c d _ H' => E c d H') (List.replicate N.length none) (startE N ds) (defBody st) U0 (m ds) .fin) : DF P w K mg base (k + 1) x st ps m := by
  refine ⟨ar, He.ga K x, fd, ?_, hx, F, F.bindsN hb⟩
  obtain ⟨oc, od, dV, kV, doc, pm, an, cdv, ct, osl, rfl, lk, hcd, _, _⟩ := F.ex
  have ec : cdv = .ref (ca K x) := ca_eq lk hcd
  refine fn_of lk hcd S (fun vs H Q E ⟨g, s, ds, hl, _, r, _⟩ => r.length.trans hl) fun A outer s H vs Q E hr ⟨g, st', ds, hl, sr, r, q⟩ => ?_
  refine ⟨_, body cdv A outer s H E ds ec hl hr, ⟨_, ⟨rfl, rfl, rfl, fun _ _ h => h⟩, H, g, g, st', Step.rfl, sr, EnvOk.start r, fun i d a h => ?_, Res.post.imp q (fun d s' x => ?_) fun c fs s' x => ?_⟩⟩
  · obtain ⟨_, _, e⟩ := startE_get h; cases e
  · exact ⟨fun v H1 g1 st1 sr1 r1 => x v H1 g1 st1 sr1 r1, fun e σ H1 g1 st1 sr1 => x .non H1 g1 st1 sr1 (by rw [e]; exact .non)⟩
  · exact fun σ' H' g' dx st1 sr1 _ _ xr => x H' g' dx st1 sr1 xr
/-! ### a lambda made -/
/-- the lambda at f, its code object at c' -/
def LamO (f c' : Addr) (q : Str) (params : Arguments) (body : Expr) (scope : Scope) : HO := .ext fun h => ∃ pm ctv, h.get? f = some (PySem.W.kla_obj "<lambda>" q params body scope [] pm c' ctv)
theorem clo_nil {cells : List (Str × Addr)} : ∀ names : List (Str × NameKind), (∀ y ∈ names, y.2 ≠ .free) → cloFrom cells names [] = []
  | [], _ => rfl
  | (n, k) :: r, h => by
    unfold cloFrom
    rw [if_neg (by simpa using h (n, k) (List.mem_cons_self ..))]
    exact clo_nil r fun y hy => h y (List.mem_cons_of_mem _ hy)
def isTab (x : Str) : D → Bool
  | .set [.str y] => decide (y = x)
  | _ => false
theorem isTab_eq {x : Str} {d : D} (h : isTab x d = true) : d = .set [.str x] := by
  unfold isTab at h
  split at h
  · rw [of_decide_eq_true h]
  · cases h
/-- the lambda is there -/
def LamAt (H : Hp) (f : Addr) (q : Str) (params : Arguments) (body : Expr) (scope : Scope) : Prop := ∃ c', H f = some (LamO f c' q params body scope) ∧ H c' = some (LamX.CodeO c' q)
theorem nodup_ix' : ∀ {l : List Addr} (_ : l.Nodup) {i j : Nat} {a : Addr} (_ : l[i]? = some a) (_ : l[j]? = some a), i = j
  | [], _, _, _, _, h, _ => by simp at h
  | x :: l, hn, 0, 0, a, _, _ => rfl
  | x :: l, hn, 0, j + 1, a, h1, h2 => by
    simp at h1 h2
    exact absurd (List.mem_of_getElem? h2) (h1 ▸ (List.nodup_cons.mp hn).1)
  | x :: l, hn, i + 1, 0, a, h1, h2 => by
    simp at h1 h2
    exact absurd (List.mem_of_getElem? h1) (h2 ▸ (List.nodup_cons.mp hn).1)
  | x :: l, hn, i + 1, j + 1, a, h1, h2 => by
    exact congrArg Nat.succ (nodup_ix' (i := i) (j := j) (List.nodup_cons.mp hn).2 (by simpa using h1) (by simpa using h2))
theorem Step.newH {H : Hp} {g : Gh} {p : Addr} {o : HO} (hp : H p = none) : Step H g (upd H p o) g where
  hb := .rfl
  fi := .rfl
  frame := fun a u h _ => by rw [upd_ne (ne_of_none h hp)]; exact h
  live := fun a h => by
    by_cases e : a = p
    · rw [e]; exact hp
    · rw [upd_ne e] at h; exact h
  newb := fun a h _ => h
  newf := fun a h _ => h
theorem SR.newH {K : PySem.W.Frag} {H : Hp} {g : Gh} {st : Sto} {p : Addr} {o : HO} (r : SR K H g st) (hp : H p = none) : SR K (upd H p o) g st where
  sub := fun a u h => by rw [upd_ne (ne_of_none (r.sub _ _ h) hp)]; exact r.sub _ _ h
  len := r.len
  nodup := r.nodup
  out := r.out
  cell := fun n a d h1 h2 => (r.cell n a d h1 h2).mono .rfl .rfl fun u h => by rw [upd_ne (ne_of_none h hp)]; exact h
section
variable {X : Cx}
def tLam (K : PySem.W.Frag) (x q : Str) (params : Arguments) (body : Expr) (scope : Scope) : TE := fun _ H Q => ∃ g st, SR K H g st ∧ st.any (isTab x) = true ∧ ∀ f H1 g1, Step H g H1 g1 → SR K H1 g1 st → LamAt H1 f q params body scope → Q (.ref f) H1
theorem pe_lam {x : Str} {params : Arguments} {body : Expr} {scope : Scope} {pos : Pos} (hq : X.env.qual = x ++ ".<locals>.") (hcode : X.env.code = .ref (ca X.K x)) (TB : LamX.TabB X.base X.mg (ca X.K x) (ta X.K x)) (hnf : ∀ y ∈ scope.names, y.2 ≠ .free) (hdef : defaultsOf params X.env = ([], [])) :
    PE X (.Lambda params body scope pos) (tLam X.K x (X.env.qual ++ "<lambda>") params body scope) := by
  refine ⟨fun pins s σ H Q I h => ?_⟩
  obtain ⟨g, st, sr, ht, h⟩ := h
  obtain ⟨d, hd, e⟩ := List.any_eq_true.mp ht
  obtain ⟨n, hn⟩ := List.getElem?_of_mem hd
  cases isTab_eq e
  obtain ⟨a, ha⟩ : ∃ a, g.fi[n]? = some a := by
    have := (List.getElem?_eq_some_iff.mp hn).1
    rw [← sr.len] at this
    exact ⟨_, List.getElem?_eq_getElem this⟩
  have hcel : TabOk X.K g.hb H a x := sr.cell n a _ ha hn
  obtain ⟨rfl, ps, hP, htr, hco⟩ := hcel
  have hPf : ta X.K x ∈ g.fi := List.mem_of_getElem? ha
  refine PySem.W.kla_eval hdef ?_
  have bP : s.heap.BuiltinsAt X.mg (ta X.K x) := TB.bm.keeps I.bk
  have hP' : s.heap.get? (ta X.K x) = some { cls := .none, data := .fields ps } := I.hok _ _ hP
  have hcl : closureFor scope X.env = pure [] := by
    rw [closure_ok fun y hy e => absurd e (hnf y hy), clo_nil _ hnf]
  have hfin : ∀ (H1 : Hp) (g1 : Gh) (h' : Heap) (c' : Addr) (pm ctv : Value) (tk : Nat), Inv X pins σ H1 { s with heap := h', toks := tk } → Step H g H1 g1 → SR X.K H1 g1 st → H1 c' = some (LamX.CodeO c' (X.env.qual ++ "<lambda>")) →
      EP X pins σ Q (.ref h'.objs.size) { s with heap := h'.push (PySem.W.kla_obj "<lambda>" (X.env.qual ++ "<lambda>") params body scope [] pm c' ctv), toks := tk } := by
    intro H1 g1 h' c' pm ctv tk I1 s1 r1 hc
    have hf : (h'.push (PySem.W.kla_obj "<lambda>" (X.env.qual ++ "<lambda>") params body scope [] pm c' ctv)).get? h'.objs.size = some (PySem.W.kla_obj "<lambda>" (X.env.qual ++ "<lambda>") params body scope [] pm c' ctv) := Heap.get?_push_size _ rfl
    have hn1 : H1 h'.objs.size = none := I1.hok.fresh (Nat.le_refl _)
    have I2 : Inv X pins σ (upd H1 h'.objs.size (LamO h'.objs.size c' (X.env.qual ++ "<lambda>") params body scope)) { s with heap := h'.push (PySem.W.kla_obj "<lambda>" (X.env.qual ++ "<lambda>") params body scope [] pm c' ctv), toks := tk } :=
      I1.laid (t' := tk) (fun b o e => Heap.get?_push_of_some _ e) (Nat.le_refl _) ⟨⟨pm, ctv, hf⟩, ⟨_, hf⟩, fun h1 h2 ⟨pm, ctv, e⟩ st => ⟨pm, ctv, st _ e⟩⟩
    have hcf : c' ≠ h'.objs.size := ne_of_none hc hn1
    exact ⟨.ref h'.objs.size, _, I2, rfl, h _ _ g1 (s1.trans (Step.newH hn1)) (r1.newH hn1) ⟨c', upd_same, by rw [upd_ne hcf]; exact hc⟩⟩
  cases hc : codeAmong pos ps.toList with
  | none =>
    refine PySem.W.kla_makeFunction (mg := X.mg) (c := ca X.K x) (P := ta X.K x) (ps := ps) hcl I.ok.glob (I.mod.glob.keeps I.bk) hcode (TB.code.keeps I.bk) hP' htr hc TB.gP bP fun c' ctv h' tk hx hge hlt hrec htb => ?_
    obtain ⟨c2, oc, vs, t, e2, hoc, hd, hv⟩ := hrec
    cases e2
    have nC : H c' = none := I.hok.fresh hge
    have I1 := LamX.inv_table (t' := tk) (more := #[rawInt pos.line, rawInt pos.col, .ref c']) (h' := h') I hP hx htb hge ⟨oc, vs, t, hoc, hd, hv⟩
    have eL : (ps ++ #[rawInt pos.line, rawInt pos.col, .ref c']).toList = ps.toList ++ [rawInt pos.line, rawInt pos.col, .ref c'] := by simp
    have nPc : ta X.K x ≠ c' := ne_of_none hP nC
    have nhb : g.hb c' = none := by
      cases q : g.hb c' with
      | none => rfl
      | some o => rw [sr.sub _ _ q] at nC; cases nC
    have at_ : ∀ b u, H b = some u → b ≠ ta X.K x → upd (upd H (ta X.K x) (.tbl (ps ++ #[rawInt pos.line, rawInt pos.col, .ref c']))) c' (LamX.CodeO c' (X.env.qual ++ "<lambda>")) b = some u := fun b u e n => by
      rw [upd_ne (ne_of_none e nC), upd_ne n]; exact e
    have hst : Step H g (upd (upd H (ta X.K x) (.tbl (ps ++ #[rawInt pos.line, rawInt pos.col, .ref c']))) c' (LamX.CodeO c' (X.env.qual ++ "<lambda>"))) ⟨upd g.hb c' (LamX.CodeO c' (X.env.qual ++ "<lambda>")), g.fi⟩ := by
      refine ⟨fun b o e => ?_, .rfl, fun b o e n => at_ b o e fun z => n (z ▸ hPf), fun b e => ?_, fun b e n => ?_, fun b e _ => e⟩
      · show upd g.hb c' _ b = _
        rw [upd_ne (ne_of_none e nhb)]; exact e
      · by_cases hb : b = c'
        · rw [hb, upd_same] at e; cases e
        · rw [upd_ne hb] at e
          by_cases hb2 : b = ta X.K x
          · rw [hb2, upd_same] at e; cases e
          · rw [upd_ne hb2] at e; exact e
      · show upd g.hb c' _ b = _
        rw [upd_ne (fun z => n (by rw [z]; exact nC))]; exact e
    have hsr : SR X.K (upd (upd H (ta X.K x) (.tbl (ps ++ #[rawInt pos.line, rawInt pos.col, .ref c']))) c' (LamX.CodeO c' (X.env.qual ++ "<lambda>"))) ⟨upd g.hb c' (LamX.CodeO c' (X.env.qual ++ "<lambda>")), g.fi⟩ st := by
      refine ⟨fun b o e => ?_, sr.len, sr.nodup, fun b hb => ?_, fun j b d hj hd => ?_⟩
      · by_cases hb : b = c'
        · have e : upd g.hb c' (LamX.CodeO c' (X.env.qual ++ "<lambda>")) b = some o := e
          rw [hb, upd_same] at e
          rw [hb, upd_same]; exact e
        · have e : upd g.hb c' (LamX.CodeO c' (X.env.qual ++ "<lambda>")) b = some o := e
          rw [upd_ne hb] at e
          exact at_ b o (sr.sub _ _ e) fun z => by rw [z, sr.out _ hPf] at e; cases e
      · show upd g.hb c' _ b = none
        have := sr.out b hb
        obtain ⟨j, hj⟩ := List.getElem?_of_mem hb
        obtain ⟨d, hd⟩ : ∃ d, st[j]? = some d := by
          have := (List.getElem?_eq_some_iff.mp hj).1
          rw [sr.len] at this
          exact ⟨_, List.getElem?_eq_getElem this⟩
        obtain ⟨u, hu⟩ := (sr.cell j b d hj hd).there
        rw [upd_ne (ne_of_none hu nC)]; exact this
      · by_cases hb : b = ta X.K x
        · have ej : j = n := nodup_ix' sr.nodup (hb ▸ hj) ha
          rw [ej, hn] at hd
          cases hd
          refine ⟨hb, _, by rw [hb, upd_ne nPc, upd_same], by rw [eL]; exact PySem.TriplesOk_snoc _ _ _ _ htr, fun pos' cv hcv => ?_⟩
          rw [eL] at hcv
          rcases LamX.among_app _ htr hcv with z | z
          · obtain ⟨c0, e1, e2⟩ := hco pos' cv z
            exact ⟨c0, e1, by show upd g.hb c' _ c0 = _; rw [upd_ne (ne_of_none e2 nhb)]; exact e2⟩
          · exact ⟨c', z, by show upd g.hb c' _ c' = _; rw [upd_same, hq]⟩
        · exact (sr.cell j b d hj hd).mono hst.hb .rfl fun o e => at_ b o e hb
    exact hfin _ _ _ _ _ _ _ I1 hst hsr upd_same
  | some cv =>
    obtain ⟨c', e, hcb⟩ := hco pos cv hc
    subst e
    refine PySem.W.kla_makeFunctionHit (mg := X.mg) (c := ca X.K x) (P := ta X.K x) (ps := ps) hcl I.ok.glob (I.mod.glob.keeps I.bk) hcode (TB.code.keeps I.bk) hP' htr hc bP fun ctv h' tk hx hsz => ?_
    exact hfin H g h' c' _ _ tk (I.kept hx) .rfl sr (by rw [hq]; exact sr.sub _ _ hcb)
end
end DL

set_option maxRecDepth 100000
set_option autoImplicit false
/-! DL28: the lambda called; sorted(xs, key=lambda a: ..); sorted of tuples. -/
namespace DL
open PySem PySem.Spec PyProof.Rows L2 DLS
/-! ### reading, with the lists that are read -/
section
variable {X : Cx} {pins : List (Addr × Obj)} {σ : SS} {H : Hp} {s : Shared} {fi : List Addr}
theorem reads_ofA (I : Inv X pins σ H s) : ∀ (n : Nat) (d : D) (v : V) (u : Value), D.lay n d = true → Rep X.K fi H v d → RelV v u → ∃ as, Reads s.heap u (D.toP d) as ∧ ∀ x ∈ as, ∃ vs, SqL X.K H x vs := by
  intro n
  induction n with
  | zero =>
    intro d v u h r q
    cases r with
    | non => cases q; exact ⟨_, .none, by simp⟩
    | bl b => cases q; exact ⟨_, .bool b, by simp⟩
    | int i => obtain ⟨t, rfl⟩ := q; exact ⟨_, .int i t, by simp⟩
    | str x => obtain ⟨t, rfl⟩ := q; exact ⟨_, .str x t, by simp⟩
    | _ => unfold D.lay at h; cases h
  | succ n ih =>
    intro d v u h r q
    have go : ∀ (xs : List D) (vs : List V) (us : List Value), xs.all (D.lay n) = true → RepL X.K fi H vs xs → Vals vs us → ∃ as, ReadsAll s.heap us (D.toPL xs) as ∧ ∀ x ∈ as, ∃ vs, SqL X.K H x vs := by
      intro xs
      induction xs with
      | nil => intro vs us _ rl va; cases rl; cases va; exact ⟨_, .nil, by simp⟩
      | cons x xs ihx =>
        intro vs us hx rl va
        rw [List.all_cons, Bool.and_eq_true] at hx
        cases rl with
        | cons r1 rl =>
          cases va with
          | cons q1 va =>
            obtain ⟨a1, h1, k1⟩ := ih x _ _ hx.1 r1 q1
            obtain ⟨a2, h2, k2⟩ := ihx _ _ hx.2 rl va
            exact ⟨_, .cons h1 h2, fun z hz => (List.mem_append.mp hz).elim (k1 z) (k2 z)⟩
    cases r with
    | non => cases q; exact ⟨_, .none, by simp⟩
    | bl b => cases q; exact ⟨_, .bool b, by simp⟩
    | int i => obtain ⟨t, rfl⟩ := q; exact ⟨_, .int i t, by simp⟩
    | str x => obtain ⟨t, rfl⟩ := q; exact ⟨_, .str x t, by simp⟩
    | lst hl rl =>
      cases q
      obtain ⟨us, va, ⟨o, m, k1, k2, k3, k4⟩, _⟩ := I.list hl
      obtain ⟨as, ra, ka⟩ := go _ _ us h rl va
      exact ⟨_, .list k1 k2 k4 (by simpa using ra), fun z hz => (List.mem_cons.mp hz).elim (fun e => ⟨_, e ▸ hl⟩) (ka z)⟩
    | tup hl rl =>
      cases q
      obtain ⟨us, va, ⟨o, k1, k2, m, k4⟩, _⟩ := I.tuple hl
      obtain ⟨as, ra, ka⟩ := go _ _ us h rl va
      exact ⟨_, .tuple k1 k2 k4 (by simpa using ra), ka⟩
    | _ => unfold D.lay at h; cases h
/-- flat data need no heap -/
theorem rep_flat {K : PySem.W.Frag} {fi fi' : List Addr} {H H' : Hp} {v : V} {d : D} (h : D.lay 0 d = true) (r : Rep K fi H v d) : Rep K fi' H' v d := by
  cases r with
  | non => exact .non
  | bl b => exact .bl b
  | int i => exact .int i
  | str x => exact .str x
  | _ => unfold D.lay at h; cases h
end
/-! ### behind a walk that keeps all but frames' slots -/
section
variable {X : Cx} {pins : List (Addr × Obj)} {σ : SS} {H : Hp} {s s' : Shared}
theorem ku_hok (I : Inv X pins σ H s) (k : KU (frs X.stack) s s') : HOk X.prog X.w H s'.heap := fun a o e =>
  (I.hok a o e).stay (fun b u hb q => (k.2.2 b u q).1 fun z => by
    have := I.stkFree b z
    rcases hb with rfl | hb
    · rw [e] at this; cases this
    · rw [hb] at this; cases this) (fun _ q => q) fun _ _ q => q
theorem inv_ku (I : Inv X pins σ H s) (k : KU (frs X.stack) s s') : Inv X pins σ H s' :=
  I.call' (ch := []) k.1 ⟨fun b o q _ nf _ => (k.2.2 b o q).1 nf, fun b o q _ _ _ => (k.2.2 b o q).2, fun b o q n _ => n, fun b o q _ => let ⟨_, sl, e⟩ := k.2.2 b o q; ⟨_, e⟩, fun _ _ e => e, fun _ _ _ e => e, fun b ps e => ⟨#[], by rw [e]; simp⟩⟩ (ku_hok I k) k.2.1 (fun b z => nomatch z)
/-- .. and a new list -/
theorem inv_kuL {a : Addr} {vs : List V} {us : List Value} {n : Nat} (I : Inv X pins σ H s) (k : KU (frs X.stack) s s') (ha : s.heap.get? a = none) (hz : vs.length ≤ sizeLine) (va : Vals vs us) (ho : s'.heap.get? a = some ({ cls := .type "list", data := .seq us.toArray n } : Obj)) : Inv X pins σ (upd H a (.lst vs)) s' := by
  have hn : H a = none := I.hok.gone ha
  refine I.call' (ch := []) k.1 ⟨fun b o q _ nf _ => (k.2.2 b o q).1 nf, fun b o q _ _ _ => (k.2.2 b o q).2, fun b o q n _ => ?_, fun b o q _ => let ⟨_, sl, e⟩ := k.2.2 b o q; ⟨_, e⟩, fun b _ e => ?_, fun b _ _ e => ?_, fun b ps e => ⟨#[], ?_⟩⟩ (fun b o e => ?_) k.2.1 (fun b z => nomatch z)
  · rw [upd_ne (fun z => by rw [z, ha] at q; cases q)]; exact n
  · rw [upd_ne (ne_of_none e hn)]; exact e
  · rw [upd_ne (ne_of_none e hn)]; exact e
  · rw [upd_ne (ne_of_none e hn), e]; simp
  · by_cases hb : b = a
    · subst hb
      rw [upd_same] at e
      cases e
      exact ⟨hz, us, n, va, ho⟩
    · rw [upd_ne hb] at e
      exact (ku_hok I k b o e).stay (fun _ _ _ q => q) (fun c q => by rw [upd_ne (ne_of_none q hn)]; exact q) fun c xs q => by rw [upd_ne (ne_of_none q hn)]; exact q
end
/-! ### the lambda called -/
/-- behind the lambda: its value, in the state of its own context -/
def LamEnd (P : Program) (w : World) (K : PySem.W.Frag) (outer : List Env) (s : Shared) (Q : VK) (r : Result) (s' : Shared) : Prop := match r with
  | .ok (.ret u) => ∃ v H' X' σ', X'.K = K ∧ Inv X' [] σ' H' s' ∧ s'.os = s.os ∧ AllBare s'.gens ∧ Un (frs outer) [] (fun _ => none) H' s.heap s'.heap ∧ RelV v u ∧ Q v H'
  | _ => False
theorem cx_none {P : Program} {w : World} {outer : List Env} {H : Hp} {s : Shared} {e : Value} {s' : Shared} (h : L2.CX P w outer H s (fun _ _ _ => False) e s') : False := by
  obtain ⟨_, _, _, _, _, _, _, _, _, _, _, _, z⟩ := h
  exact z
theorem lam_call {P : Program} {w : World} {K : PySem.W.Frag} {mg : Str → Option Value} {base : Heap} {k : Nat} {A : Around} {outer : List Env} {s : Shared} {a q : Str} {scope : Scope} {params : Arguments} {body : Expr} {f c' : Addr} {pm ctv u : Value} {v : V} {Q : VK} {t : TE} (hr : Room (k + 1) A) (e0 : Env0 P w K mg base A outer s fun _ => none)
    (hf : s.heap.get? f = some (PySem.W.kla_obj "<lambda>" q params body scope [] pm c' ctv)) (hc : s.heap.CodeRec (.ref c') q) (S : FnScope [a] [a] scope) (hbind : bindArgs (PySem.W.kla_fn "<lambda>" q params body scope [] pm (.ref c') ctv) ⟨[u], []⟩ = pure [(a, u)]) (r : RelV v u)
    (ht : Room k (A.deeper (envOfC q scope s.heap.objs.size f (.ref c'))) → PE (cxOf (L2.CX P w) P w K mg base [a] q scope f (.ref c') A outer s (fun _ => none) fun _ _ _ => False) body t) (hq : t (start [a] [v]) (fun _ => none) Q) :
    codeAny (model P w) A (.call (.ref f) ⟨[u], []⟩) (LamEnd P w K outer s Q) s := by
  have lim : s.heap.NoLimit := e0.mod.nolimit.keeps fun b o e => (e0.bs b o e).1
  have hkind : ∀ y ∈ [a].zip [u], scope.names.lookup y.1 = some .local ∨ (scope.names.lookup y.1 = some .cell ∧ ((cellsFrom (s.heap.objs.size + 1) scope.names []).lookup y.1).isSome = true) := fun ⟨n, v⟩ hy => by
    rcases S.par n (List.of_mem_zip hy).1 with q | q
    · exact .inl q
    · exact .inr ⟨q, PySem.W.cellsFrom_some _ _ _ (.inl q)⟩
  refine PySem.W.kla_callFunE hr.depth hf rfl S.co S.gen rfl hc ?_
  rw [hbind]
  refine wpAny_pure ?_
  refine wpAny_newFunctionEnv_cells S.kind hkind fun env he s1 x => ?_
  subst he
  refine ⟨lim.keeps x.toInCall.keep, ?_⟩
  have I : Inv (cxOf (L2.CX P w) P w K mg base [a] q scope f (.ref c') A outer s (fun _ => none) fun _ _ _ => False) [] (start [a] [v]) (fun _ => none) s1 := inv_start (ps := [a]) (us := [u]) S hr.hd e0 rfl (.cons r .nil) x
  exact PySem.W.kla_codeExpr (wpAny_mono ((ht (hr.deeper _)).run [] s1 (start [a] [v]) _ Q I hq) (fun u s' ⟨v, H', J, rv, q⟩ => ⟨v, H', _, _, rfl, J, J.os, J.bare, J.base, rv, q⟩) fun e s' h => wpAny_mono h (fun _ _ z => (cx_none z).elim) fun _ _ z => (cx_none z).elim)
/-! ### sorted(xs, key=lambda a: ..) -/
def keyRun (f : D → M D) (x : D) : Option D := match f x [] with
  | .ok k _ => if D.lay 0 x then some k else none
  | _ => none
def keyOf (f : D → M D) (x : D) : D := (keyRun f x).getD .non
def sortKeyD (f : D → M D) (xs : List D) : List D := xs.mergeSort (PySem.W.dataLe false fun x => D.toP (keyOf f x))
def keyOk (f : D → M D) (xs : List D) : Bool := (xs.all fun x => (keyRun f x).isSome) && sortOk (xs.map (keyOf f))
def Bi.sortedKey (f : D → M D) : List D → M D
  | [.lst xs] => if keyOk f xs then pure (.lst (sortKeyD f xs)) else M.bad
  | [.tup xs] => if keyOk f xs then pure (.lst (sortKeyD f xs)) else M.bad
  | _ => M.bad
theorem nx_sortedKey (f : D → M D) (ds : List D) : NoEx (Bi.sortedKey f ds) := by unfold Bi.sortedKey; split <;> first | exact noEx_ite (noEx_pure _) noEx_bad | exact noEx_bad
def Op.tab (x : Str) : M Unit := fun s => if s.any (isTab x) then .ok () s else .bad
def Bi.sortedQ : List D → M D
  | [.lst xs] => if sortOk xs then pure (.lst (sortD xs)) else M.bad
  | [.tup xs] => if sortOk xs then pure (.lst (sortD xs)) else M.bad
  | _ => M.bad
theorem nx_sortedQ (ds : List D) : NoEx (Bi.sortedQ ds) := by unfold Bi.sortedQ; split <;> first | exact noEx_ite (noEx_pure _) noEx_bad | exact noEx_bad
theorem sortOk_alike {xs : List D} (h : sortOk xs = true) : xs.all (D.lay 40) = true ∧ PySem.W.AllAlike (xs.map D.toP) ∧ PySem.W.Sortable (xs.map D.toP) := by
  unfold sortOk at h
  simp only [Bool.and_eq_true, Bool.or_eq_true] at h
  refine ⟨h.1.1, fun d hd d' hd' => ?_, ?_⟩
  · obtain ⟨x, hx, rfl⟩ := List.mem_map.mp hd
    obtain ⟨y, hy, rfl⟩ := List.mem_map.mp hd'
    exact List.all_eq_true.mp (List.all_eq_true.mp h.1.2 x hx) y hy
  · rcases h.2 with z | z
    · refine .inl fun d hd => ?_
      obtain ⟨x, hx, rfl⟩ := List.mem_map.mp hd
      have := List.all_eq_true.mp z x hx
      split at this
      · exact ⟨_, _, rfl⟩
      · cases this
    · refine .inr fun d hd => ?_
      obtain ⟨x, hx, rfl⟩ := List.mem_map.mp hd
      have h1 := List.all_eq_true.mp z x hx
      have h2 := List.all_eq_true.mp h.1.1 x hx
      cases x <;> first | (cases h1; done) | (unfold D.lay at h2; cases h2; done) | (refine ⟨?_, ?_⟩ <;> intros <;> intro z <;> cases z)
section
variable {X : Cx} {pins : List (Addr × Obj)} {σ : SS} {H : Hp} {s : Shared}
theorem frs_there (I : Inv X pins σ H s) : ∀ x ∈ frs X.stack, ∃ o, s.heap.get? x = some o := fun x hx => let ⟨_, o, ho, _⟩ := I.stack.mem hx; ⟨o, ho⟩
/-- what is walked: its object -/
theorem seq_obj (I : Inv X pins σ H s) {g : Gh} {st : Sto} {v : V} {u : Value} {d : D} {xs : List D} (sr : SR X.K H g st) (b : Bor X.K g H v d) (hd : d = .lst xs ∨ d = .tup xs) (r : RelV v u) :
    ∃ (a : Addr) (T : String) (o : Obj) (its : List Value) (n : Nat) (ws : List V), u = .ref a ∧ (T = "list" ∨ T = "tuple") ∧ s.heap.get? a = some o ∧ o.cls = .type T ∧ o.data = .seq its.toArray n ∧ Vals ws its ∧ RepL X.K g.fi g.hb ws xs ∧ its.length ≤ sizeLine := by
  rcases hd with rfl | rfl
  · obtain ⟨a, ws, rfl, hl, rl⟩ := b.lst sr
    obtain ⟨its, va, ⟨o, n, e1, e2, e3, e4⟩, hz⟩ := I.list hl
    cases r
    exact ⟨a, "list", o, its, n, ws, rfl, .inl rfl, e1, e2, e4, va, rl, by rw [← va.length]; exact hz⟩
  · obtain ⟨a, ws, rfl, hl, rl⟩ := b.tup sr
    obtain ⟨its, va, ⟨o, e1, e2, n, e4⟩, hz⟩ := I.tuple hl
    cases r
    exact ⟨a, "tuple", o, its, n, ws, rfl, .inr rfl, e1, e2, e4, va, rl, by rw [← va.length]; exact hz⟩
/-- one call of the key -/
theorem key_turn {k : Nat} {a q : Str} {scope : Scope} {params : Arguments} {body : Expr} {f : Addr} {fm : D → M D} {x : D} {v : V} {u : Value} {s₁ : Shared} {fi : List Addr} {hb : Hp} (I : Inv X pins σ H s) (hr : Room (k + 3) X.A) (L : LamAt H f q params body scope) (S : FnScope [a] [a] scope)
    (hbind : ∀ (q : Str) (pm cv ctv u : Value), bindArgs (PySem.W.kla_fn "<lambda>" q params body scope [] pm cv ctv) ⟨[u], []⟩ = pure [(a, u)])
    (hbody : ∀ (A : Around) (outer : List Env) (s : Shared) (H : Hp) (E : XK) (f c' : Addr) (d : D), Room k (A.deeper (envOfC q scope s.heap.objs.size f (.ref c'))) → JE (cxOf (L2.CX X.prog X.w) X.prog X.w X.K X.mg X.base [a] q scope f (.ref c') A outer s H E) (fun c d _ H2 => E c d H2) [some (.val d)] body (fm d))
    (hk : (keyRun fm x).isSome = true) (hl : D.lay 40 (keyOf fm x) = true) (rv : RelV v u) (rx : Rep X.K fi hb v x) (ku : KU (frs X.stack) s s₁) :
    wpAny (model X.prog X.w) X.A.in1.in1 (call (.ref f) [u]) (KeyP (frs X.stack) s (D.toP (keyOf fm x)) s₁) (fun _ _ => False) s₁ := by
  have I1 := inv_ku I ku
  have e1 := I1.env0
  have e0 : Env0 X.prog X.w X.K X.mg X.base X.A.in1.in1 X.stack s₁ (fun _ => none) := ⟨e1.frames, e1.mod, fun b o q => ⟨(e1.bs b o q).1, rfl⟩, e1.bsz, e1.funs, fun _ _ => rfl, (fun b o h => nomatch h), e1.bare⟩
  obtain ⟨c', hf, hc⟩ := L
  obtain ⟨⟨pm, ctv, of⟩, _, _⟩ := I1.hok f _ hf
  obtain ⟨⟨oc, vs, t, hoc, hdc, hvc⟩, _, _⟩ := I1.hok c' _ hc
  unfold keyRun at hk
  cases em : fm x [] with
  | ok kd st' =>
    rw [em] at hk
    dsimp only at hk
    cases hx : D.lay 0 x with
    | false => rw [hx, if_neg (by simp)] at hk; cases hk
    | true =>
      have ek : keyOf fm x = kd := by unfold keyOf keyRun; rw [em]; dsimp only; rw [hx, if_pos rfl]; rfl
      rw [ek] at hl ⊢
      have hr1 : Room (k + 1) X.A.in1.in1 := hr.in1.in1
      refine wpAny_call (codeAny_mono (lam_call (Q := fun v H' => ∃ g' st', SR X.K H' g' st' ∧ Rep X.K g'.fi H' v kd) hr1 e0 of ⟨c', oc, vs, t, rfl, hoc, hdc, hvc⟩ S (hbind _ _ _ _ _) rv (fun hr2 => hbody _ _ _ _ _ _ _ x hr2) ?_) fun r s2 hq => ?_)
      · refine tX.mk (g := ⟨fun _ => none, []⟩) (s := []) ⟨.rfl, rfl, .nil, fun a h => (by cases h), fun n a d h => (by simp at h)⟩ ?_ ?_
        · exact EnvOk.start (N := [a]) (ds := [x]) (.cons (rep_flat hx rx) .nil)
        · rw [em]
          exact fun w H1 g1 st sr1 _ r => ⟨g1, st', sr1, r.mono sr1.sub .rfl⟩
      · cases r with
        | error e => exact False.elim hq
        | ok fl =>
          cases fl with
          | ret u2 =>
            obtain ⟨v2, H', X', σ', eK, J, os, bare, un, rv2, g', st2, sr2, r2⟩ := hq
            rw [← eK] at r2 sr2
            obtain ⟨as, ra, ka⟩ := reads_ofA J 40 kd v2 u2 hl r2 rv2
            refine ⟨⟨os, bare, fun b o e => ?_⟩, as, ra, fun z hz => ?_⟩
            · refine ⟨fun nf => un.keep b o e rfl nf (by simp), ?_⟩
              exact un.any e rfl (by simp)
            · obtain ⟨ws, hz⟩ := ka z hz
              rcases hz with hz | ⟨o, its, n, hk, _⟩
              · left
                cases q : s₁.heap.get? z with
                | none => rfl
                | some o =>
                  have := un.free z o q rfl (by simp)
                  rcases hz with hz | ⟨o2, hz⟩ <;> rw [this] at hz <;> cases hz
              · right
                exact ⟨o, I.kIn _ _ (by rw [← eK]; exact hk)⟩
          | next => exact False.elim hq
          | brk => exact False.elim hq
          | cont => exact False.elim hq
  | ex c d s' => rw [em] at hk; cases hk
  | bad => rw [em] at hk; cases hk
end
end DL

set_option maxRecDepth 100000
set_option autoImplicit false
/-! DL29: sorted(xs, key=lambda a: ..), sorted(xs) of lists and tuples: the rules. -/
namespace DL
open PySem PySem.Spec PyProof.Rows L2 DLS
section
variable {X : Cx} {pins : List (Addr × Obj)} {σ : SS} {H : Hp} {s : Shared}
theorem ku_push {h' : Heap} {fs : List Addr} {o : Obj} (hb : AllBare s.gens) (keep : ∀ b o', s.heap.get? b = some o' → h'.get? b = some o') : KU fs s { s with heap := h'.push o } :=
  KU.heap (tk := s.toks) (KU.refl hb) fun b o u hu hb => Heap.get?_push_of_some _ (keep b o hb)
theorem gone_size {h' : Heap} (keep : ∀ b o', s.heap.get? b = some o' → h'.get? b = some o') : s.heap.get? h'.objs.size = none := by
  cases q : s.heap.get? h'.objs.size with
  | none => rfl
  | some o => exact absurd (Heap.lt_size (keep _ _ q)) (Nat.lt_irrefl _)
theorem sortedKey_run {k : Nat} {a q : Str} {scope : Scope} {params : Arguments} {body : Expr} {f : Addr} {fm : D → M D} {g : Gh} {st : Sto} {d : D} {xs : List D} {v : V} {u : Value} {Q : VK} (I : Inv X pins σ H s) (hr : Room (k + 3) X.A) (L : LamAt H f q params body scope) (S : FnScope [a] [a] scope)
    (hbind : ∀ (q : Str) (pm cv ctv u : Value), bindArgs (PySem.W.kla_fn "<lambda>" q params body scope [] pm cv ctv) ⟨[u], []⟩ = pure [(a, u)])
    (hbody : ∀ (A : Around) (outer : List Env) (s : Shared) (H : Hp) (E : XK) (f c' : Addr) (d : D), Room k (A.deeper (envOfC q scope s.heap.objs.size f (.ref c'))) → JE (cxOf (L2.CX X.prog X.w) X.prog X.w X.K X.mg X.base [a] q scope f (.ref c') A outer s H E) (fun c d _ H2 => E c d H2) [some (.val d)] body (fm d))
    (sr : SR X.K H g st) (b : Bor X.K g H v d) (hd : d = .lst xs ∨ d = .tup xs) (r : RelV v u) (c : keyOk fm xs = true) (q : Mp X.K (RS X.K) (pure (D.lst (sortKeyD fm xs))) H g st Q fun _ _ _ => False) :
    wpAny (model X.prog X.w) X.A (call (.builtin "sorted") [u] [(Str.ofString "key", .ref f)]) (EP X pins σ Q) X.xe s := by
  obtain ⟨a0, T, o, its, n, ws, rfl, hT, ho, hc, hdt, va, rl, hz⟩ := seq_obj I sr b hd r
  unfold keyOk at c
  rw [Bool.and_eq_true] at c
  obtain ⟨hl40, hal, hsk⟩ := sortOk_alike c.2
  rw [List.map_map] at hal hsk
  have e0 : PySem.W.EachIs (Std X g.fi H s g.hb) its xs := each_std va rl
  have hlen : (xs.map (D.toP ∘ keyOf fm)).length = its.length := by rw [List.length_map]; exact e0.length.symm
  have l40 : ∀ x ∈ xs, D.lay 40 (keyOf fm x) = true := fun x hx => List.all_eq_true.mp hl40 _ (List.mem_map_of_mem hx)
  refine sortedQ_of hT ho hc hdt (by rw [List.size_toArray]; exact hz) (PyProof.Rows.ksk_s1 _ _) (fun _ => PyProof.Rows.ksk_l1 _ _) fun h' E' keep => ?_
  have ha0 := gone_size (s := s) keep
  rw [PyProof.Rows.ksk_t1]
  refine keyU_tree (s₀ := s) (fs := frs X.stack) (kz := xs.map (D.toP ∘ keyOf fm)) (vs := its) (n := 0) (ku_push I.bare keep) ha0 (frs_there I) (Heap.get?_push_size _ rfl) hlen hz hal hsk (fun d hd => ?_) (fun i v0 kd hv hkd s₁ ku => ?_) fun s' out cc ku' hD ko => ⟨rfl, ?_⟩
  · obtain ⟨x, hx, rfl⟩ := List.mem_map.mp hd
    have h1 := toP_depth 40 _ (l40 x hx)
    have h2 := hr.in1.in1.units
    show X.A.in1.in1.units + (D.toP (keyOf fm x)).depth < cLine
    omega
  · rw [List.getElem?_map] at hkd
    cases qx : xs[i]? with
    | none => rw [qx] at hkd; cases hkd
    | some x =>
      rw [qx] at hkd
      cases hkd
      have hm := List.mem_of_getElem? qx
      obtain ⟨w, rw_, rx⟩ := e0.zip (v0, x) (List.mem_of_getElem? (i := i) (by rw [List.getElem?_zip_eq_some]; exact ⟨hv, qx⟩))
      exact key_turn I hr L S hbind hbody (List.all_eq_true.mp c.1 x hm) (l40 x hm) rw_ rx ku
  · have eo := PySem.W.keyedOut_each (D.toP ∘ keyOf fm) ko e0
    obtain ⟨vs', va', rl'⟩ := std_back eo
    have hz' : vs'.length ≤ sizeLine := by rw [va'.length, ko.length hlen]; exact hz
    exact ⟨.ref _, _, inv_kuL I ku' ha0 hz' va' hD, rfl, Mp.newL q sr rl' (I.hok.gone ha0)⟩
def rSK (K : PySem.W.Frag) (q : Str) (params : Arguments) (body : Expr) (scope : Scope) (fm : D → M D) : List V → List V → Hp → VK → Prop := fun vs zs H Q => ∃ g st ds f, zs = [V.ref f] ∧ SR K H g st ∧ BorL K g H vs ds ∧ LamAt H f q params body scope ∧ Mp K (RS K) (Bi.sortedKey fm ds) H g st Q fun _ _ _ => False
theorem cr_sortedK {k : Nat} {a q : Str} {scope : Scope} {params : Arguments} {body : Expr} {fm : D → M D} (hr : Room (k + 3) X.A) (S : FnScope [a] [a] scope)
    (hbind : ∀ (q : Str) (pm cv ctv u : Value), bindArgs (PySem.W.kla_fn "<lambda>" q params body scope [] pm cv ctv) ⟨[u], []⟩ = pure [(a, u)])
    (hbody : ∀ (A : Around) (outer : List Env) (s : Shared) (H : Hp) (E : XK) (f c' : Addr) (d : D), Room k (A.deeper (envOfC q scope s.heap.objs.size f (.ref c'))) → JE (cxOf (L2.CX X.prog X.w) X.prog X.w X.K X.mg X.base [a] q scope f (.ref c') A outer s H E) (fun c d _ H2 => E c d H2) [some (.val d)] body (fm d)) :
    CallRK X (.builtin "sorted") [Str.ofString "key"] (rSK X.K q params body scope fm) := by
  intro pins s σ H vs zs us ws Q I r rz ⟨g, st, ds, f, ez, sr, bs, L, q⟩
  subst ez
  obtain ⟨w1, rfl, e1⟩ := vals1 rz
  cases e1
  unfold Bi.sortedKey at q
  split at q
  · obtain ⟨c, q⟩ := Mp.ite q
    obtain ⟨v, rfl, bv⟩ := BorL.oneD bs
    obtain ⟨u, rfl, ru⟩ := vals1 r
    exact sortedKey_run I hr L S hbind hbody sr bv (.inl rfl) ru c q
  · obtain ⟨c, q⟩ := Mp.ite q
    obtain ⟨v, rfl, bv⟩ := BorL.oneD bs
    obtain ⟨u, rfl, ru⟩ := vals1 r
    exact sortedKey_run I hr L S hbind hbody sr bv (.inr rfl) ru c q
  · exact q.elim
theorem post_tab {x : Str} {α : Type} {k : Unit → M α} {s : Sto} {ok : α → Sto → Prop} {ex : Str → List (Str × D) → Sto → Prop} (h : ((Op.tab x >>= k) s).post ok ex) : s.any (isTab x) = true ∧ (k () s).post ok ex := by
  have h := post_bind.mp h
  unfold Op.tab at h
  split at h
  · rename_i c
    exact ⟨c, h⟩
  · exact h.elim
/-- sorted(e, key=lambda a: body) -/
theorem je_sortedK {W : WX} {env : EnvD} {k : Nat} {x a : Str} {scope : Scope} {params : Arguments} {body : Expr} {fm : D → M D} {e : Expr} {m : M (List D)} {p kpos lpos pos : Pos} (hq : X.env.qual = x ++ ".<locals>.") (hcode : X.env.code = .ref (ca X.K x)) (TB : LamX.TabB X.base X.mg (ca X.K x) (ta X.K x)) (hr : Room (k + 3) X.A)
    (hg : Gl X "sorted") (hm : X.mg "sorted" = none) (S : FnScope [a] [a] scope) (hdef : defaultsOf params X.env = ([], []))
    (hbind : ∀ (q : Str) (pm cv ctv u : Value), bindArgs (PySem.W.kla_fn "<lambda>" q params body scope [] pm cv ctv) ⟨[u], []⟩ = pure [(a, u)])
    (ha : JAb X W env [e] m)
    (hbody : ∀ (A : Around) (outer : List Env) (s : Shared) (H : Hp) (E : XK) (f c' : Addr) (d : D), Room k (A.deeper (envOfC (X.env.qual ++ "<lambda>") scope s.heap.objs.size f (.ref c'))) →
      JE (cxOf (L2.CX X.prog X.w) X.prog X.w X.K X.mg X.base [a] (X.env.qual ++ "<lambda>") scope f (.ref c') A outer s H E) (fun c d _ H2 => E c d H2) [some (.val d)] body (fm d))
    (he : backTo pos (starEach [e] X.env) = (false, eval e X.env) :: backTo pos (starEach [] X.env) := by rfl) (hpl : (backTo pos (starEach [e] X.env)).any (·.1) = false := by rfl) :
    JE X W env (.Call (.Name "sorted" p) [e] [⟨some "key", .Lambda params body scope lpos, kpos⟩] pos) (m >>= fun ds => Op.tab x >>= fun _ => Bi.sortedKey fm ds) :=
  PE.imp (pe_callBK (cr_sortedK (fm := fm) hr S hbind hbody) hg hm (by decide +kernel) ha (pk_cons (pe_lam hq hcode TB S.nofree hdef) pk_nil) (by decide) (by decide) he hpl) fun σ H Q ⟨g, s, sr, eo, q⟩ => tX.bind sr eo q fun ds s1 vs H1 g1 st sr1 eo1 r q1 => by
    obtain ⟨c, q2⟩ := post_tab q1
    refine ⟨g1, s1, sr1, c, fun f H2 g2 st2 sr2 L => ?_⟩
    exact ⟨g2, s1, ds, f, rfl, sr2, r.step st2, L, NoEx.mp (nx_sortedKey _ _) (Mp.step (m := Bi.sortedKey fm ds) (Rl := RS X.K) q2 st2)⟩
theorem cd_sortedQ (hu : X.A.units + 64 < cLine) : CallD X (.builtin "sorted") Bi.sortedQ := by
  intro pins s σ H vs us Q I r ⟨g, st, ds, sr, bs, q⟩
  have go : ∀ (d : D) (xs : List D), (d = .lst xs ∨ d = .tup xs) → BorL X.K g H vs [d] → sortOk xs = true → Mp X.K (RS X.K) (pure (D.lst (sortD xs))) H g st Q (fun _ _ _ => False) → wpAny (model X.prog X.w) X.A (call (.builtin "sorted") us) (EP X pins σ Q) X.xe s := by
    intro d xs hd bs c q
    obtain ⟨v, rfl, bv⟩ := BorL.oneD bs
    obtain ⟨u, rfl, ru⟩ := vals1 r
    obtain ⟨a0, T, o, its, n, ws, rfl, hT, ho, hc, hdt, va, rl, hz⟩ := seq_obj I sr bv hd ru
    obtain ⟨hl40, hal, hsk⟩ := sortOk_alike c
    have e0 : PySem.W.EachIs (Std X g.fi H s g.hb) its xs := each_std va rl
    have er := each_reads I sr.sub hl40 e0
    refine sortedQ_of hT ho hc hdt (by rw [List.size_toArray]; exact hz) (PyProof.Rows.args_sorted1 _) (fun _ => PyProof.Rows.args_list_sort _) fun h' E' keep => ?_
    have ha0 := gone_size (s := s) keep
    have nb : ∀ b o, s.heap.get? b = some o → b ≠ h'.objs.size := fun b o e z => by rw [z, ha0] at e; cases e
    have ob : (h'.push ({ cls := .type "list", data := .seq its.toArray 0 } : Obj)).get? h'.objs.size = some { cls := .type "list", data := .seq its.toArray 0 } := Heap.get?_push_size _ rfl
    have er' : PySem.W.EachIs (fun v b => ∃ as, Reads (PySem.W.sortingHeap (h'.push ({ cls := .type "list", data := .seq its.toArray 0 } : Obj)) h'.objs.size its) v (D.toP b) as) its xs := er.mono fun _ _ ⟨as, r⟩ => ⟨as, PyProof.Rows.Reads.keeps (fun b o e => PySem.W.sortingHeap_old (nb b o e) (Heap.get?_push_of_some _ (keep b o e))) r⟩
    refine PySem.W.list_sort_vals (κ := PySem.W.dataKind _ (xs.map D.toP)) ob (PySem.W.SortsAt.data (PySem.W.each_map (R := fun v d => ∃ as, Reads (PySem.W.sortingHeap (h'.push ({ cls := .type "list", data := .seq its.toArray 0 } : Obj)) h'.objs.size its) v d as) D.toP er') hal hsk (fun d hd => ?_)) hz ⟨rfl, ?_⟩
    · obtain ⟨x, hx, rfl⟩ := List.mem_map.mp hd
      have h1 := toP_depth 40 _ (List.all_eq_true.mp hl40 x hx)
      show X.A.units + 1 + 1 + (D.toP x).depth < cLine
      omega
    · have eo := PySem.W.sortVals_data false e0 er' hal
      obtain ⟨vs', va', rl'⟩ := std_back eo
      have hz' : vs'.length ≤ sizeLine := by rw [va'.length, PySem.W.sortVals_length false rfl]; exact hz
      obtain ⟨ep, he'⟩ := PyProof.Rows.sortedHeap_at (vs := its) (out := (PySem.W.sortVals (PySem.W.dataKind (PySem.W.sortingHeap (h'.push ({ cls := .type "list", data := .seq its.toArray 0 } : Obj)) h'.objs.size its) (xs.map D.toP)) false its its).toArray) ob
      have ku : KU (frs X.stack) s { s with heap := PyProof.Rows.sortedHeap (h'.push ({ cls := .type "list", data := .seq its.toArray 0 } : Obj)) h'.objs.size its (PySem.W.sortVals (PySem.W.dataKind (PySem.W.sortingHeap (h'.push ({ cls := .type "list", data := .seq its.toArray 0 } : Obj)) h'.objs.size its) (xs.map D.toP)) false its its).toArray } :=
        KU.heap (tk := s.toks) (KU.refl I.bare) fun b o u hu hb => by
          have e := Heap.get?_push_of_some ({ cls := .type "list", data := .seq its.toArray 0 } : Obj) (keep b o hb)
          rw [PyProof.Rows.sortedHeap_old (nb b o hb) (Heap.lt_size e)]
          exact e
      exact ⟨.ref _, _, inv_kuL I ku ha0 hz' va' he', rfl, Mp.newL q sr rl' (I.hok.gone ha0)⟩
  unfold Bi.sortedQ at q
  split at q
  · obtain ⟨c, q⟩ := Mp.ite q
    exact go _ _ (.inl rfl) bs c q
  · obtain ⟨c, q⟩ := Mp.ite q
    exact go _ _ (.inr rfl) bs c q
  · exact q.elim
end
end DL

set_option maxRecDepth 100000
set_option autoImplicit false
/-! DL30: the head of a law with lambdas: the tables of code objects are its first cells. -/
namespace DL
open PySem PySem.Spec PyProof.Rows L2
def isTabO : Obj → Bool
  | ⟨.none, none, .fields vs, sl⟩ => vs.isEmpty && sl.isEmpty
  | _ => false
theorem isTabO_ok {o : Obj} (h : isTabO o = true) : o = { cls := .none, data := .fields #[] } := by
  unfold isTabO at h
  split at h
  · rw [Bool.and_eq_true, Array.isEmpty_iff, Array.isEmpty_iff] at h
    rw [h.1, h.2]
  · cases h
/-- without the empty tables -/
def gT (g : Addr → Option Obj) (a : Addr) : Option Obj := match g a with
  | some o => if isTabO o then none else some o
  | none => none
theorem gT_some {g : Addr → Option Obj} {a : Addr} {o : Obj} (h : gT g a = some o) : g a = some o ∧ isTabO o = false := by
  unfold gT at h
  split at h
  · rename_i o' e
    split at h
    · cases h
    · rename_i c
      cases h
      exact ⟨e, by simpa using c⟩
  · cases h
def tabB (g : Addr → Option Obj) (K : PySem.W.Frag) (tl : List Str) : Bool := (tl.all fun x => (match g (ta K x) with
  | some o => isTabO o
  | none => false) && PySem.W.codeHdIn K (ca K x) (ta K x)) && decide ((tl.map (ta K)).Nodup)
/-- the tables of the defs tl -/
def TabsOk (K : PySem.W.Frag) (h : Heap) (tl : List Str) : Prop := (∀ x ∈ tl, h.get? (ta K x) = some { cls := .none, data := .fields #[] } ∧ K.lookup (ta K x) = none ∧ PySem.W.codeHdIn K (ca K x) (ta K x) = true) ∧ (tl.map (ta K)).Nodup
abbrev AlT : Type := He.AlD × Bool
def obsT (n : Nat) (fa : List He.Fa) (fn : List He.DefD) (ex : PySem.W.Frag → Bool) (tl : List Str) (g : Addr → Option Obj) : AlT :=
  (He.obsD fa fn (He.frG (gT g) (He.asD g n)), ex (He.frG (gT g) (He.asD g n)) && tabB g (He.frG (gT g) (He.asD g n)) tl)
theorem tabs_of {h : Heap} {as : List Addr} {tl : List Str} (e : tabB h.get? (He.frG (gT h.get?) as) tl = true) : TabsOk (He.frG (gT h.get?) as) h tl := by
  unfold tabB at e
  rw [Bool.and_eq_true, List.all_eq_true, decide_eq_true_eq] at e
  refine ⟨fun x hx => ?_, e.2⟩
  have h1 := e.1 x hx
  rw [Bool.and_eq_true] at h1
  cases q : h.get? (ta (He.frG (gT h.get?) as) x) with
  | none => rw [q] at h1; cases h1.1
  | some o =>
    rw [q] at h1
    refine ⟨congrArg some (isTabO_ok h1.1), ?_, h1.2⟩
    cases q2 : (He.frG (gT h.get?) as).lookup (ta (He.frG (gT h.get?) as) x) with
    | none => rfl
    | some o2 =>
      obtain ⟨e1, e2⟩ := gT_some (He.frG_at as q2)
      rw [q] at e1
      cases e1
      exact absurd (show isTabO o = true from h1.1) (by rw [e2]; simp)
def hookT (n : Nat) (fa : List He.Fa) (fn : List He.DefD) (ex : PySem.W.Frag → Bool) (tl : List Str) : PySem.W.Hook where
  α := AlT
  obs := fun s => obsT n fa fn ex tl s.heap.get?
  val := fun _ => (He.valD fn, true)
  says := fun _ h => ∃ K : PySem.W.Frag, K.In h ∧ He.SaysD fa fn K ∧ ex K = true ∧ TabsOk K h tl
  of := fun _ s e => by
    have e2 : (ex _ && tabB _ _ tl) = true := congrArg (fun z : AlT => z.2) e
    rw [Bool.and_eq_true] at e2
    exact ⟨_, fun a o h => (gT_some (He.frG_at _ h)).1, congrArg (fun z : AlT => z.1) e, e2.1, tabs_of e2.2⟩
  keeps := fun _ _ _ ⟨K, hK, c, e, t⟩ k => ⟨K, PySem.W.Frag.In.keeps hK k, c, e, fun x hx => let ⟨a, b⟩ := t.1 x hx; ⟨k _ _ a, b⟩, t.2⟩
theorem obsT_eq {n : Nat} {fa : List He.Fa} {fn : List He.DefD} {ex : PySem.W.Frag → Bool} {tl : List Str} {g : Addr → Option Obj} {s : Shared} (h : ∀ a, g a = s.heap.get? a) : obsT n fa fn ex tl g = (hookT n fa fn ex tl).obs s := by
  have e : g = s.heap.get? := funext h
  rw [e] <;> rfl
/-- the law, from the mirror's answer, the tables as the first cells -/
theorem sp_lawT {K : PySem.W.Frag} {m : List D → M D} {tl : List Str} (hm : ∀ ns : List Int, ns.length ≤ 63 → ∃ s', m [.lst (ns.map D.int)] (tl.map fun x => D.set [.str x]) = .ok (.bl true) s') (nd : (tl.map (ta K)).Nodup) (H : Hp) (hH : ∀ x ∈ tl, H (ta K x) = some (.tbl #[])) (a : Addr) (ns : List Int) (hl : ns.length ≤ 63) (hS : SqL K H a (ns.map V.int)) :
    spD K 1 m [.ref a] H (fun v _ => v = .bl true) fun _ _ _ => False := by
  obtain ⟨s', e⟩ := hm ns hl
  have hP : ∀ b ∈ tl.map (ta K), H b = some (.tbl #[]) := fun b hb => by
    obtain ⟨x, hx, rfl⟩ := List.mem_map.mp hb
    exact hH x hx
  have hS' : SqL K (fun b => if b ∈ tl.map (ta K) then none else H b) a (ns.map V.int) := by
    have na : (∃ u, H a = some u ∧ ∀ ps, u ≠ .tbl ps) → (if a ∈ tl.map (ta K) then none else H a) = H a := fun ⟨u, h1, h2⟩ => if_neg fun hb => by
      have := hP a hb
      rw [h1] at this
      exact h2 _ (Option.some.inj this)
    rcases hS with (h | ⟨o, h⟩) | h
    · exact .inl (.inl ((na ⟨_, h, fun _ z => by cases z⟩).trans h))
    · exact .inl (.inr ⟨o, (na ⟨_, h, fun _ z => by cases z⟩).trans h⟩)
    · exact .inr h
  refine ⟨⟨fun b => if b ∈ tl.map (ta K) then none else H b, tl.map (ta K)⟩, tl.map fun x => D.set [.str x], [.lst (ns.map D.int)], rfl, ⟨fun b o h => ?_, by simp, nd, fun b hb => if_pos hb, fun n b d h1 h2 => ?_⟩, .cons (.lst hS' RepL.ofInts) .nil, ?_⟩
  · have h : (if b ∈ tl.map (ta K) then none else H b) = some o := h
    split at h
    · cases h
    · exact h
  · have h1 : (tl.map (ta K))[n]? = some b := h1
    rw [List.getElem?_map] at h1 h2
    cases q : tl[n]? with
    | none => rw [q] at h1; cases h1
    | some x =>
      rw [q] at h1 h2
      cases h1; cases h2
      exact ⟨rfl, #[], hH x (List.mem_of_getElem? q), True.intro, fun pos cv hc => by
        have z : codeAmong pos [] = some cv := hc
        simp [codeAmong] at z⟩
  · show (m [.lst (ns.map D.int)] (tl.map fun x => D.set [.str x])).post _ _
    rw [e]
    intro w H' g' st sr r
    cases r
    rfl
/-- the code objects and their tables -/
def csT (K : PySem.W.Frag) (tl : List Str) : List (Addr × Addr) := tl.map fun x => (ca K x, ta K x)
theorem lawAtT {l : PySem.W.OpenLaw} {w : World} {K : PySem.W.Frag} {k : Nat} {x : Str} {mg : Str → Option Value} {fa : Addr} {h : Heap} {m : List D → M D} {tl : List Str} {fd : FuncData} (KX : K.In h) (t : TabsOk K h tl) (hb : ∀ (s : Shared) (u : Value), BindsTo s fd ⟨[u], []⟩ [(x, u)])
    (hm : ∀ ns : List Int, ns.length ≤ 63 → ∃ s', m [.lst (ns.map D.int)] (tl.map fun x => D.set [.str x]) = .ok (.bl true) s')
    (hF : ∀ base : Heap, K.In base → base.Ns mainGlobals mg → (∀ y ∈ tl, LamX.TabB base mg (ca K y) (ta K y)) → FnOk l.prog w K mg base (L2.CX l.prog w) k fa fd [x] (spD K 1 m)) : LamX.LawAtS l w K (L2.CX l.prog w) k 63 x mg fa h := by
  refine ⟨fd, csT K tl, spD K 1 m, fun p hp => ?_, fun p hp => ?_, fun p hp => ?_, hb, fun H a ns hl _ hH hS => sp_lawT hm t.2 H (fun x hx => hH (ca K x, ta K x) (List.mem_map_of_mem hx)) a ns hl hS, fun base h1 h2 h3 => hF base h1 h2 fun y hy => h3 (ca K y, ta K y) (List.mem_map_of_mem hy)⟩
  · obtain ⟨x, hx, rfl⟩ := List.mem_map.mp hp
    exact (t.1 x hx).1
  · obtain ⟨x, hx, rfl⟩ := List.mem_map.mp hp
    exact (t.1 x hx).2.1
  · obtain ⟨x, hx, rfl⟩ := List.mem_map.mp hp
    exact PySem.W.codeHd_of_K KX (t.1 x hx).2.2
end DL

set_option maxRecDepth 100000
set_option autoImplicit false
/-! DL31: a, b = e, where e is a list or a tuple. -/
namespace DLS
open PySem PySem.Calls PyProof.Rows PySem.W
section
variable {prog : Program} {w : World} {A : Around} {E : Value → Shared → Prop} {s : Shared}
theorem draw_listS {it t : Addr} {items : Array Value} (hne : t ≠ it) : ∀ (n i : Nat) (s : Shared) (Q : List Value → Shared → Prop), s.heap.IsListIter it t i → s.heap.IsList t items → i + n ≤ items.size →
    (∀ h', h'.IsListIter it t (i + n) → Heap.SameBut it s.heap h' → Q ((items.toList.drop i).take n) { s with heap := h' }) → wpAny (model prog w) A (draw (.ref it) n) Q E s
  | 0, i, s, Q, hit, _, _, hQ => by
    show wpAny _ _ (pure []) Q E s
    exact wpAny_pure (by simpa using hQ s.heap hit (Heap.SameBut.refl ..))
  | n + 1, i, s, Q, hit, ht, hle, hQ => by
    have hlt : i < items.size := by omega
    show wpAny _ _ (pyNext (.ref it) >>= _) Q E s
    refine wpAny_bind (wpAny_pyNext_list_item hit ht (x := items[i]) (by simp [hlt]) fun h₁ hit₁ hs₁ => ?_)
    refine wpAny_bind (wpAny_holding (draw_listS hne n (i + 1) _ _ hit₁ (ht.extBut hs₁.extBut hne) (by omega) fun h₂ hit₂ hs₂ => wpAny_pure ?_))
    have hd : items.toList.drop i = items[i] :: items.toList.drop (i + 1) := by simp [List.drop_eq_getElem_cons, hlt]
    have := hQ h₂ (by rw [show i + (n + 1) = i + 1 + n by omega]; exact hit₂) (hs₁.trans hs₂)
    rw [hd, List.take_succ_cons] at this
    exact this
theorem isList_push {h : Heap} {t : Addr} {items : Array Value} (o : Obj) (x : h.IsList t items) : (h.push o).IsList t items := let ⟨o', ho, r⟩ := x; ⟨o', Heap.get?_push_of_some _ ho, r⟩
theorem unpackItems_list {t : Addr} {items : Array Value} {Q : List Value → Shared → Prop} (hh : A.handled = none) (ht : s.heap.IsList t items)
    (hQ : ∀ h', Heap.ExtBut s.heap.objs.size s.heap h' → Q items.toList { s with heap := h' }) : wpAny (model prog w) A (unpackItems (.ref t) items.size none) Q E s := by
  have hlt : t ≠ s.heap.objs.size := by obtain ⟨o, ho, _⟩ := ht; exact Nat.ne_of_lt (Heap.lt_size ho)
  unfold unpackItems
  refine wpAny_bind ?_
  · unfold notIterableAtAll
    refine wpAny_bind (wpAny_specialOf ht.typeIs slot_list_iter.lookup ?_)
    refine wpAny_pure ?_
    simp only [Bool.false_eq_true, if_false]
    refine wpAny_bind (wpAny_holding (wpAny_pyIter_list ht ?_))
    refine wpAny_bind (wpAny_holding (draw_listS hlt items.size 0 _ _ ⟨_, Heap.get?_push_size _ rfl, rfl, rfl⟩ (isList_push _ ht) (by omega) fun h₁ hit₁ hs₁ => ?_))
    have hall : List.take items.size (List.drop 0 items.toList) = items.toList := by
      rw [List.drop_zero]; exact List.take_of_length_le (by simp)
    rw [hall]
    rw [if_neg (by simp)]
    have ht₁ : h₁.IsList t items := (isList_push _ ht).extBut hs₁.extBut hlt
    refine wpAny_bind (wpAny_holding (wpAny_pyNext_list_end hh hit₁ ht₁ (by simp) fun h₂ he₂ => ?_))
    simp only [Option.isSome_none, Bool.false_eq_true, if_false]
    refine wpAny_pure (hQ h₂ fun b o hb e => he₂ b o hb (hs₁.extBut b o hb (Heap.get?_push_of_some _ e)))
theorem unpack_list {t : Addr} {items : Array Value} {targets : List (Bool × (Value → Sem Unit))} {Q : Unit → Shared → Prop} (hh : A.handled = none) (ht : s.heap.IsList t items)
    (hn : targets.length = items.size) (hstar : targets.findIdx? (·.1) = none)
    (h : ∀ h', Heap.ExtBut s.heap.objs.size s.heap h' → wpAny (model prog w) A (assignInOrder (targets.map (·.2)) items.toList) Q E { s with heap := h' }) :
    wpAny (model prog w) A (unpack (.ref t) targets) Q E s := by
  unfold unpack
  rw [hn, hstar]
  exact wpAny_bind (wpAny_holding (unpackItems_list hh ht h))
theorem assign_Tuple_list {env : Env} {elts : List Expr} {x1} {pos : Pos} {t : Addr} {items : Array Value} {Q : Unit → Shared → Prop} (hh : A.handled = none) (ht : s.heap.IsList t items)
    (hn : (assignEach elts env).length = items.size) (hstar : (assignEach elts env).findIdx? (·.1) = none)
    (h : ∀ h', Heap.ExtBut s.heap.objs.size s.heap h' → wpAny (model prog w) A (assignInOrder ((assignEach elts env).map (·.2)) items.toList) Q E { s with heap := h' }) :
    wpAny (model prog w) A (assign (.Tuple elts x1 pos) env (.ref t)) Q E s := by
  rw [assign_Tuple]
  exact wpAny_bind (wpAny_standAt (unpack_list hh ht hn hstar h))
end
end DLS
namespace DL
open PySem PySem.Spec PyProof.Rows L2
/-- (a, b, ..) = a tuple or a list of that length -/
def gSeq (K : PySem.W.Frag) (n : Nat) (t : TGs) : TG := fun v σ H Q => ∃ a xs, v = .ref a ∧ (SqT K H a xs ∨ SqL K H a xs) ∧ xs.length = n ∧ t xs σ H Q
theorem pg_seq {X : Cx} {es : List Expr} {k : Nat} {pos : Pos} {t : TGs} {n : Nat} (hc : X.calm = true) (h : PGs X es t)
    (hn : (assignEach es X.env).length = n := by rfl) (hst : (assignEach es X.env).findIdx? (·.1) = none := by rfl) : PG X (.Tuple es k pos) (gSeq X.K n t) := by
  refine ⟨fun pins s σ H v u Q I r hw => ?_⟩
  obtain ⟨a, xs, e1, hq, hl, hw⟩ := hw
  subst e1
  cases r
  rcases hq with hq | hq
  · obtain ⟨its, rv, ht, hz⟩ := I.tuple hq
    refine assign_Tuple_tuple (I.ok.hd hc) ht (by simp [hn, ← hl, rv.length]) hst fun h' hx => ?_
    have I1 : Inv X pins σ H { s with heap := h' } := I.kept (t' := s.toks) fun b o e => hx b o (Nat.ne_of_lt (Heap.lt_size e)) e
    exact h.run pins _ σ H xs _ Q I1 (by simpa using rv) hw
  · obtain ⟨its, rv, ht, hz⟩ := I.list hq
    refine DLS.assign_Tuple_list (I.ok.hd hc) ht.isList (by simp [hn, ← hl, rv.length]) hst fun h' hx => ?_
    have I1 : Inv X pins σ H { s with heap := h' } := I.kept (t' := s.toks) fun b o e => hx b o (Nat.ne_of_lt (Heap.lt_size e)) e
    exact h.run pins _ σ H xs _ Q I1 (by simpa using rv) hw
def unS2 : D → M (D × D)
  | .tup [a, b] => pure (a, b)
  | .lst [a, b] => pure (a, b)
  | _ => M.bad
theorem go_seq2 (K : PySem.W.Frag) (i j : Nat) : GOk K (gSeq K 2 (gCons (gName i) (gCons (gName j) gNil))) [i, j] unS2 (fun env a => (env.set i (some (.val a.1))).set j (some (.val a.2))) where
  go := fun env σ H gh s s1 x d a Q sr eo r h => by
    have key : ∀ {p q : D} {vs : List V} {b : Addr}, RepL K gh.fi gh.hb vs [p, q] → (SqT K H b vs ∨ SqL K H b vs) → a = (p, q) → (∀ σ', EnvOk K H gh σ' ((env.set i (some (.val p))).set j (some (.val q))) → (∀ vs : List Nat, (∀ i' ∈ [i, j], i' ∈ vs) → wipe σ' vs = wipe σ vs) → (∀ k, k ∉ [i, j] → σ'[k]? = σ[k]?) → Q σ' H) → gSeq K 2 (gCons (gName i) (gCons (gName j) gNil)) (.ref b) σ H Q := by
      intro p q vs b rl ht ea q1
      cases rl with
      | cons r1 rl =>
        cases rl with
        | cons r2 rl =>
          cases rl
          refine ⟨_, _, rfl, ht, rfl, _, _, rfl, _, _, rfl, rfl, ?_⟩
          exact q1 _ ((eo.set r1 i).set r2 j) (fun vs hv => by rw [wipe_set (hv j (by simp)), wipe_set (hv i (by simp))]) fun k hk => by
            rw [List.getElem?_set_ne (fun z => hk (by simp [z])), List.getElem?_set_ne (fun z => hk (by simp [z]))]
    unfold unS2 at h
    split at h
    · rename_i p q
      have h' : Res.ok (p, q) s = Res.ok a s1 := h
      cases h'
      refine ⟨rfl, fun q1 => ?_⟩
      cases r with
      | tup ht rl => exact key rl (.inl (SqT.sub ht sr.sub)) rfl q1
    · rename_i p q
      have h' : Res.ok (p, q) s = Res.ok a s1 := h
      cases h'
      refine ⟨rfl, fun q1 => ?_⟩
      cases r with
      | lst ht rl => exact key rl (.inr (SqL.sub ht sr.sub)) rfl q1
    · cases h
  nx := fun d => by unfold unS2; split <;> first | exact noEx_pure _ | exact noEx_bad
  ow := fun env a j d h => by
    obtain ⟨h1, h2⟩ := own_set h
    obtain ⟨h3, h4⟩ := own_set h2
    exact ⟨by simp [h1, h3], h4⟩
end DL

set_option maxRecDepth 100000
set_option autoImplicit false
/-! DL32: max(xs, key=lambda a: ..). -/
namespace DL
open PySem PySem.Spec PyProof.Rows L2 DLS
section
variable {X : Cx} {pins : List (Addr × Obj)} {σ : SS} {H : Hp} {s : Shared} {fi : List Addr}
theorem reads_ofG (I : Inv X pins σ H s) {G : Heap} (hG : ∀ x, ((∃ ws, SqL X.K H x ws) ∨ ∃ ws, SqT X.K H x ws) → G.get? x = s.heap.get? x) : ∀ (n : Nat) (d : D) (v : V) (u : Value), D.lay n d = true → Rep X.K fi H v d → RelV v u → ∃ as, Reads G u (D.toP d) as := by
  intro n
  induction n with
  | zero =>
    intro d v u h r q
    cases r with
    | non => cases q; exact ⟨_, .none⟩
    | bl b => cases q; exact ⟨_, .bool b⟩
    | int i => obtain ⟨t, rfl⟩ := q; exact ⟨_, .int i t⟩
    | str x => obtain ⟨t, rfl⟩ := q; exact ⟨_, .str x t⟩
    | _ => unfold D.lay at h; cases h
  | succ n ih =>
    intro d v u h r q
    have go : ∀ (xs : List D) (vs : List V) (us : List Value), xs.all (D.lay n) = true → RepL X.K fi H vs xs → Vals vs us → ∃ as, ReadsAll G us (D.toPL xs) as := by
      intro xs
      induction xs with
      | nil => intro vs us _ rl va; cases rl; cases va; exact ⟨_, .nil⟩
      | cons x xs ihx =>
        intro vs us hx rl va
        rw [List.all_cons, Bool.and_eq_true] at hx
        cases rl with
        | cons r1 rl =>
          cases va with
          | cons q1 va =>
            obtain ⟨a1, h1⟩ := ih x _ _ hx.1 r1 q1
            obtain ⟨a2, h2⟩ := ihx _ _ hx.2 rl va
            exact ⟨_, .cons h1 h2⟩
    cases r with
    | non => cases q; exact ⟨_, .none⟩
    | bl b => cases q; exact ⟨_, .bool b⟩
    | int i => obtain ⟨t, rfl⟩ := q; exact ⟨_, .int i t⟩
    | str x => obtain ⟨t, rfl⟩ := q; exact ⟨_, .str x t⟩
    | lst hl rl =>
      cases q
      obtain ⟨us, va, ⟨o, m, k1, k2, k3, k4⟩, _⟩ := I.list hl
      obtain ⟨as, ra⟩ := go _ _ us h rl va
      exact ⟨_, .list ((hG _ (.inl ⟨_, hl⟩)).trans k1) k2 k4 (by simpa using ra)⟩
    | tup hl rl =>
      cases q
      obtain ⟨us, va, ⟨o, k1, k2, m, k4⟩, _⟩ := I.tuple hl
      obtain ⟨as, ra⟩ := go _ _ us h rl va
      exact ⟨_, .tuple ((hG _ (.inr ⟨_, hl⟩)).trans k1) k2 k4 (by simpa using ra)⟩
    | _ => unfold D.lay at h; cases h
/-- one call of the key, anywhere within built-in calls -/
theorem key_turnG {k : Nat} {a q : Str} {scope : Scope} {params : Arguments} {body : Expr} {f : Addr} {fm : D → M D} {x : D} {v : V} {u : Value} {s₁ : Shared} {hb : Hp} {A' : Around} {E : Value → Shared → Prop} (I : Inv X pins σ H s) (hfr : A'.frames = X.A.frames) (hr1 : Room (k + 1) A') (L : LamAt H f q params body scope) (S : FnScope [a] [a] scope)
    (hbind : ∀ (q : Str) (pm cv ctv u : Value), bindArgs (PySem.W.kla_fn "<lambda>" q params body scope [] pm cv ctv) ⟨[u], []⟩ = pure [(a, u)])
    (hbody : ∀ (A : Around) (outer : List Env) (s : Shared) (H : Hp) (E : XK) (f c' : Addr) (d : D), Room k (A.deeper (envOfC q scope s.heap.objs.size f (.ref c'))) → JE (cxOf (L2.CX X.prog X.w) X.prog X.w X.K X.mg X.base [a] q scope f (.ref c') A outer s H E) (fun c d _ H2 => E c d H2) [some (.val d)] body (fm d))
    (hk : (keyRun fm x).isSome = true) (hl : D.lay 40 (keyOf fm x) = true) (rv : RelV v u) (rx : Rep X.K fi hb v x) (ku : KU (frs X.stack) s s₁) :
    wpAny (model X.prog X.w) A' (call (.ref f) [u]) (fun kv s₂ => KU (frs X.stack) s₁ s₂ ∧ ∀ G : Heap, (∀ x, (s₁.heap.get? x = none ∨ ∃ o, s.heap.get? x = some o) → G.get? x = s₂.heap.get? x) → ∃ as, Reads G kv (D.toP (keyOf fm x)) as) E s₁ := by
  have I1 := inv_ku I ku
  have e1 := I1.env0
  have e0 : Env0 X.prog X.w X.K X.mg X.base A' X.stack s₁ (fun _ => none) := ⟨hfr.trans e1.frames, e1.mod, fun b o q => ⟨(e1.bs b o q).1, rfl⟩, e1.bsz, e1.funs, fun _ _ => rfl, (fun b o h => nomatch h), e1.bare⟩
  obtain ⟨c', hf, hc⟩ := L
  obtain ⟨⟨pm, ctv, of⟩, _, _⟩ := I1.hok f _ hf
  obtain ⟨⟨oc, vs, t, hoc, hdc, hvc⟩, _, _⟩ := I1.hok c' _ hc
  unfold keyRun at hk
  cases em : fm x [] with
  | ok kd st' =>
    rw [em] at hk
    dsimp only at hk
    cases hx : D.lay 0 x with
    | false => rw [hx, if_neg (by simp)] at hk; cases hk
    | true =>
      have ek : keyOf fm x = kd := by unfold keyOf keyRun; rw [em]; dsimp only; rw [hx, if_pos rfl]; rfl
      rw [ek] at hl ⊢
      refine wpAny_call (codeAny_mono (lam_call (Q := fun v H' => ∃ g' st', SR X.K H' g' st' ∧ Rep X.K g'.fi H' v kd) hr1 e0 of ⟨c', oc, vs, t, rfl, hoc, hdc, hvc⟩ S (hbind _ _ _ _ _) rv (fun hr2 => hbody _ _ _ _ _ _ _ x hr2) ?_) fun r s2 hq => ?_)
      · refine tX.mk (g := ⟨fun _ => none, []⟩) (s := []) ⟨.rfl, rfl, .nil, fun a h => (by cases h), fun n a d h => (by simp at h)⟩ ?_ ?_
        · exact EnvOk.start (N := [a]) (ds := [x]) (.cons (rep_flat hx rx) .nil)
        · rw [em]
          exact fun w H1 g1 st sr1 _ r => ⟨g1, st', sr1, r.mono sr1.sub .rfl⟩
      · cases r with
        | error e => exact False.elim hq
        | ok fl =>
          cases fl with
          | ret u2 =>
            obtain ⟨v2, H', X', σ', eK, J, os, bare, un, rv2, g', st2, sr2, r2⟩ := hq
            rw [← eK] at r2 sr2
            refine ⟨⟨os, bare, fun b o e => ?_⟩, fun G hG => reads_ofG J (fun x hx => hG x ?_) 40 kd v2 u2 hl r2 rv2⟩
            · refine ⟨fun nf => un.keep b o e rfl nf (by simp), ?_⟩
              exact un.any e rfl (by simp)
            · have key : ∀ o', H' x = some o' → s₁.heap.get? x = none := fun o' h' => by
                cases q : s₁.heap.get? x with
                | none => rfl
                | some o => rw [un.free x o q rfl (by simp)] at h'; cases h'
              rcases hx with ⟨ws, (h | ⟨o2, h⟩) | ⟨o, its, n, hk, _⟩⟩ | ⟨ws, (h | ⟨o2, h⟩) | ⟨o, its, n, hk, _⟩⟩
              · exact .inl (key _ h)
              · exact .inl (key _ h)
              · exact .inr ⟨o, I.kIn _ _ (by rw [← eK]; exact hk)⟩
              · exact .inl (key _ h)
              · exact .inl (key _ h)
              · exact .inr ⟨o, I.kIn _ _ (by rw [← eK]; exact hk)⟩
          | next => exact False.elim hq
          | brk => exact False.elim hq
          | cont => exact False.elim hq
  | ex c d s' => rw [em] at hk; cases hk
  | bad => rw [em] at hk; cases hk
end
/-! ### max(xs, key=lambda a: ..) -/
def btK (f : D → M D) (xs : List D) (i j : Nat) : Bool := PySem.W.dataLt (D.toP (keyOf f (xs.getD j .non))) (D.toP (keyOf f (xs.getD i .non)))
def bestD (f : D → M D) (xs : List D) : D := xs.getD (argBest (btK f xs) (xs.length - 1)) .non
def Bi.maxKey (f : D → M D) : List D → M D
  | [.lst xs] => if keyOk f xs && decide (0 < xs.length) then pure (bestD f xs) else M.bad
  | [.tup xs] => if keyOk f xs && decide (0 < xs.length) then pure (bestD f xs) else M.bad
  | _ => M.bad
theorem nx_maxKey (f : D → M D) (ds : List D) : NoEx (Bi.maxKey f ds) := by unfold Bi.maxKey; split <;> first | exact noEx_ite (noEx_pure _) noEx_bad | exact noEx_bad
theorem argBest_le (bt : Nat → Nat → Bool) : ∀ k, argBest bt k ≤ k
  | 0 => Nat.le_refl _
  | k + 1 => by
    show (if bt (k + 1) (argBest bt k) then k + 1 else argBest bt k) ≤ k + 1
    have := argBest_le bt k
    split <;> omega
section
variable {X : Cx} {pins : List (Addr × Obj)} {σ : SS} {H : Hp} {s : Shared}
theorem maxKey_run {k : Nat} {a q : Str} {scope : Scope} {params : Arguments} {body : Expr} {f : Addr} {fm : D → M D} {g : Gh} {st : Sto} {d : D} {xs : List D} {v : V} {u : Value} {Q : VK} (I : Inv X pins σ H s) (hr : Room (k + 3) X.A) (L : LamAt H f q params body scope) (S : FnScope [a] [a] scope)
    (hbind : ∀ (q : Str) (pm cv ctv u : Value), bindArgs (PySem.W.kla_fn "<lambda>" q params body scope [] pm cv ctv) ⟨[u], []⟩ = pure [(a, u)])
    (hbody : ∀ (A : Around) (outer : List Env) (s : Shared) (H : Hp) (E : XK) (f c' : Addr) (d : D), Room k (A.deeper (envOfC q scope s.heap.objs.size f (.ref c'))) → JE (cxOf (L2.CX X.prog X.w) X.prog X.w X.K X.mg X.base [a] q scope f (.ref c') A outer s H E) (fun c d _ H2 => E c d H2) [some (.val d)] body (fm d))
    (sr : SR X.K H g st) (b : Bor X.K g H v d) (hd : d = .lst xs ∨ d = .tup xs) (r : RelV v u) (c : (keyOk fm xs && decide (0 < xs.length)) = true) (q : Mp X.K (RS X.K) (pure (bestD fm xs)) H g st Q fun _ _ _ => False) :
    wpAny (model X.prog X.w) X.A (call (.builtin "max") [u] [(Str.ofString "key", .ref f)]) (EP X pins σ Q) X.xe s := by
  obtain ⟨a0, T, o, its, n, ws, rfl, hT, ho, hc, hdt, va, rl, hz⟩ := seq_obj I sr b hd r
  rw [Bool.and_eq_true, decide_eq_true_eq] at c
  obtain ⟨ck, hpos⟩ := c
  unfold keyOk at ck
  rw [Bool.and_eq_true] at ck
  obtain ⟨hl40, hal, hsk⟩ := sortOk_alike ck.2
  have e0 : PySem.W.EachIs (Std X g.fi H s g.hb) its xs := each_std va rl
  have hn : its.length = xs.length := e0.length
  have item : ∀ i u, its.toArray[i]? = some u → ∃ x, xs[i]? = some x ∧ xs.getD i .non = x ∧ x ∈ xs ∧ Std X g.fi H s g.hb u x := fun i u hu => by
    have hu : its[i]? = some u := by simpa using hu
    have hi : i < xs.length := by rw [← hn]; exact (List.getElem?_eq_some_iff.mp hu).1
    refine ⟨xs[i], List.getElem?_eq_getElem hi, by simp [List.getD, List.getElem?_eq_getElem hi], List.getElem_mem hi, ?_⟩
    exact e0.zip (u, xs[i]) (List.mem_of_getElem? (i := i) (by rw [List.getElem?_zip_eq_some]; exact ⟨hu, List.getElem?_eq_getElem hi⟩))
  have l40 : ∀ x ∈ xs, D.lay 40 (keyOf fm x) = true := fun x hx => List.all_eq_true.mp hl40 _ (List.mem_map_of_mem hx)
  have al : ∀ x ∈ xs, ∀ y ∈ xs, PySem.W.alike (D.toP (keyOf fm x)) (D.toP (keyOf fm y)) = true := fun x hx y hy => hal _ (List.mem_map_of_mem (List.mem_map_of_mem hx)) _ (List.mem_map_of_mem (List.mem_map_of_mem hy))
  have nn : ∀ x ∈ xs, D.toP (keyOf fm x) ≠ .none := fun x hx z => by
    rcases hsk with h | h
    · obtain ⟨_, _, e⟩ := h _ (List.mem_map_of_mem (List.mem_map_of_mem hx))
      rw [z] at e; cases e
    · exact (h _ (List.mem_map_of_mem (List.mem_map_of_mem hx))).1 z
  have nf : ∀ x, s.heap.get? x = none → x ∉ frs X.stack := fun x h z => by
    obtain ⟨o, e⟩ := frs_there I x z
    rw [h] at e; cases e
  have hI : s.heap.get? s.heap.objs.size = none := Heap.get?_none_of_le (Nat.le_refl _)
  have hS : s.heap.get? (s.heap.objs.size + 1) = none := Heap.get?_none_of_le (Nat.le_succ _)
  -- the walk, whatever it is
  have main : ∀ (St : Nat → Shared → Prop) (s₂ : Shared) (oi : Obj), (∀ i s1 s2, KU (frs X.stack) s1 s2 → St i s1 → St i s2) → s₂ = { s with heap := s.heap.push oi } → (∀ i s', St i s' → ∃ o, s'.heap.get? s.heap.objs.size = some o) →
      WalksS X.prog X.w X.A.in1 s.heap.objs.size [s.heap.objs.size, a0] [s.heap.objs.size] (fun a b => b = a) its.toArray.size (fun i v => its.toArray[i]? = some v) St → St 0 s₂ → (∀ b ∈ [s.heap.objs.size, a0], b < s₂.heap.objs.size) →
      ∃ I fp wr G n P St J V bt, (Value.ref s.heap.objs.size) = .ref I ∧ WalksS X.prog X.w X.A.in1 I fp wr G n P St ∧ St 0 s₂ ∧ (∀ b ∈ fp, b < s₂.heap.objs.size) ∧ 0 < n ∧
        KeyRun X.prog X.w X.A.in1 (.ref f) .Gt s₂.heap.objs.size wr G n P St J V bt ∧ J s₂ ∧ ∀ v s', P (argBest bt (n - 1)) v → J s' → EP X pins σ Q v s' := by
    intro St s₂ oi hSt e2 hit W st0 hfp
    have hs2 : s₂.heap.objs.size = s.heap.objs.size + 1 := by rw [e2]; exact Heap.size_push _ _
    refine ⟨s.heap.objs.size, _, _, _, _, _, St, fun s' => KU (frs X.stack) s s', fun i kv s' => ∃ (G : Heap) (as : List Addr), i < xs.length ∧ (∀ b o, G.get? b = some o → (b ≠ s.heap.objs.size ∧ b ≠ s.heap.objs.size + 1) ∧ ∃ sl, s'.heap.get? b = some { o with slots := sl }) ∧ Reads G kv (D.toP (keyOf fm (xs.getD i .non))) as, btK fm xs, rfl, W, st0, hfp, by rw [List.size_toArray, hn]; exact hpos, ?_, ?_, ?_⟩
    · rw [hs2]
      refine ⟨fun s1 s' ku m => ?_, fun i kv s1 s' ⟨G, as, hi, hG, hR⟩ m => ⟨G, as, hi, fun b o hb => ?_, hR⟩, fun i v s1 o Q' E' hi hP ku hst ho hQ => ?_, fun i j ki kj s1 Q' E' ku ⟨G1, as1, hi, hG1, hR1⟩ ⟨G2, as2, hj, hG2, hR2⟩ hq => ?_⟩
      · refine ⟨m.os.trans ku.1, by rw [m.gens]; exact ku.2.1, fun b ob hb => ?_⟩
        have nb : b ∉ (s.heap.objs.size + 1) :: [s.heap.objs.size] := fun z => by
          rcases List.mem_cons.mp z with z | z
          · rw [z, hS] at hb; cases hb
          · rw [List.mem_singleton.mp z, hI] at hb; cases hb
        obtain ⟨k1, sl, k2⟩ := ku.2.2 b ob hb
        exact ⟨fun n => m.heap b _ nb (k1 n), sl, m.heap b _ nb k2⟩
      · obtain ⟨⟨n1, n2⟩, sl, e⟩ := hG b o hb
        exact ⟨⟨n1, n2⟩, sl, m.heap b _ (by simp [n1, n2]) e⟩
      · obtain ⟨x, hx, gx, mx, w, rw_, rx⟩ := item i v hP
        refine wpAny_mono (key_turnG (fi := g.fi) (hb := g.hb) I rfl (Room.mono (Room.in1 (k := k + 2) hr) (by omega)) L S hbind hbody (List.all_eq_true.mp ck.1 x mx) (l40 x mx) rw_ rx ku) (fun kv s2 hkv => ?_) fun e s' h => h
        obtain ⟨ku2, hG⟩ := hkv
        have hSk : s2.heap.get? (s.heap.objs.size + 1) = some o := (ku2.2.2 _ _ ho).1 (nf _ hS)
        refine hQ kv s2 (ku.trans ku2) (hSt _ _ _ ku2 hst) hSk ?_ fun j k' ⟨G', as', hj', hG', hR'⟩ => ⟨G', as', hj', fun b ob hb => ?_, hR'⟩
        · obtain ⟨G, g1, g2⟩ := L2.restrict s2.heap fun b => !(b == s.heap.objs.size) && !(b == s.heap.objs.size + 1)
          obtain ⟨as, hR⟩ := hG G fun y hy => g1 y (by
            obtain ⟨oi', hoi⟩ := hit _ _ hst
            have y1 : y ≠ s.heap.objs.size := fun z => by
              rw [z, hI, hoi] at hy
              rcases hy with h | ⟨_, h⟩ <;> cases h
            have y2 : y ≠ s.heap.objs.size + 1 := fun z => by
              rw [z, hS, ho] at hy
              rcases hy with h | ⟨_, h⟩ <;> cases h
            simp [y1, y2])
          refine ⟨G, as, (List.getElem?_eq_some_iff.mp hx).1, fun b ob hb => ?_, by rw [gx]; exact hR⟩
          cases qb : (!(b == s.heap.objs.size) && !(b == s.heap.objs.size + 1)) with
          | true =>
            rw [g1 b qb] at hb
            simp at qb
            exact ⟨qb, ob.slots, hb⟩
          | false => rw [g2 b qb] at hb; cases hb
        · obtain ⟨n12, sl, e⟩ := hG' b ob hb
          obtain ⟨_, sl2, e2'⟩ := ku2.2.2 _ _ e
          exact ⟨n12, sl2, e2'⟩
      · have mi : xs.getD i .non ∈ xs := by simp [List.getD, List.getElem?_eq_getElem hi]
        have mj : xs.getD j .non ∈ xs := by simp [List.getD, List.getElem?_eq_getElem hj]
        have r1 := reads_slots (fun b o hb => (hG1 b o hb).2) _ _ _ (al _ mi _ mi) hR1
        have r2 := reads_slots (fun b o hb => (hG2 b o hb).2) _ _ _ (al _ mj _ mj) hR2
        have hu := hr.units
        have d1 := toP_depth 40 _ (l40 _ mi)
        refine PySem.W.rcGt_alike _ _ X.A.in1 s1 ki kj _ _ r1 r2 (al _ mi _ mj) (nn _ mi) ?_ X.prog X.w E' Q' hq
        show X.A.units + 1 + _ < cLine
        omega
    · rw [e2]
      exact KU.heap (tk := s.toks) (KU.refl I.bare) fun b o u _ hb => Heap.get?_push_of_some _ hb
    · intro v s' hP ku
      obtain ⟨x, hx, gx, mx, w, rw_, rx⟩ := item _ v hP
      have hb : bestD fm xs = x := by
        unfold bestD
        rw [← gx, List.size_toArray, hn]
      rw [hb] at q
      exact ⟨w, H, inv_ku I ku, rw_, Mp.pure (Rl := RS X.K) q sr rx⟩
  have slotsI : ∀ {b : Addr} {o : Obj} {s1 s2 : Shared}, KU (frs X.stack) s1 s2 → s1.heap.get? b = some o → ∃ sl, s2.heap.get? b = some { o with slots := sl } := fun ku e => (ku.2.2 _ _ e).2
  have hh : X.A.in1.handled = none := hr.hd
  refine call_max_walkK ?_
  rcases hT with rfl | rfl
  · refine PySem.W.iter_listW hh (vs := its.toArray) ⟨o, ho, hc, n, hdt⟩ fun s₂ e2 W st0 hfp _ _ => main _ s₂ _ (fun i s1 s2 ku ⟨⟨oi, h1, h2, h3⟩, ⟨ol, h4, h5, nl, h6⟩⟩ => ?_) e2 (fun i s' ⟨⟨oi, h1, _⟩, _⟩ => ⟨oi, h1⟩) W st0 hfp
    obtain ⟨sl, k1⟩ := slotsI ku h1
    obtain ⟨sl2, k2⟩ := slotsI ku h4
    exact ⟨⟨_, k1, h2, h3⟩, ⟨_, k2, h5, nl, h6⟩⟩
  · refine PySem.W.iter_tupleW hh (vs := its.toArray) ⟨o, ho, hc, n, hdt⟩ fun s₂ e2 W st0 hfp _ _ => main _ s₂ _ (fun i s1 s2 ku ⟨⟨oi, h1, h2, h3⟩, ⟨ol, h4, h5, nl, h6⟩⟩ => ?_) e2 (fun i s' ⟨⟨oi, h1, _⟩, _⟩ => ⟨oi, h1⟩) W st0 hfp
    obtain ⟨sl, k1⟩ := slotsI ku h1
    obtain ⟨sl2, k2⟩ := slotsI ku h4
    exact ⟨⟨_, k1, h2, h3⟩, ⟨_, k2, h5, nl, h6⟩⟩
def rMK (K : PySem.W.Frag) (q : Str) (params : Arguments) (body : Expr) (scope : Scope) (fm : D → M D) : List V → List V → Hp → VK → Prop := fun vs zs H Q => ∃ g st ds f, zs = [V.ref f] ∧ SR K H g st ∧ BorL K g H vs ds ∧ LamAt H f q params body scope ∧ Mp K (RS K) (Bi.maxKey fm ds) H g st Q fun _ _ _ => False
theorem cr_maxK {k : Nat} {a q : Str} {scope : Scope} {params : Arguments} {body : Expr} {fm : D → M D} (hr : Room (k + 3) X.A) (S : FnScope [a] [a] scope)
    (hbind : ∀ (q : Str) (pm cv ctv u : Value), bindArgs (PySem.W.kla_fn "<lambda>" q params body scope [] pm cv ctv) ⟨[u], []⟩ = pure [(a, u)])
    (hbody : ∀ (A : Around) (outer : List Env) (s : Shared) (H : Hp) (E : XK) (f c' : Addr) (d : D), Room k (A.deeper (envOfC q scope s.heap.objs.size f (.ref c'))) → JE (cxOf (L2.CX X.prog X.w) X.prog X.w X.K X.mg X.base [a] q scope f (.ref c') A outer s H E) (fun c d _ H2 => E c d H2) [some (.val d)] body (fm d)) :
    CallRK X (.builtin "max") [Str.ofString "key"] (rMK X.K q params body scope fm) := by
  intro pins s σ H vs zs us ws Q I r rz ⟨g, st, ds, f, ez, sr, bs, L, q⟩
  subst ez
  obtain ⟨w1, rfl, e1⟩ := vals1 rz
  cases e1
  unfold Bi.maxKey at q
  split at q
  · obtain ⟨c, q⟩ := Mp.ite q
    obtain ⟨v, rfl, bv⟩ := BorL.oneD bs
    obtain ⟨u, rfl, ru⟩ := vals1 r
    exact maxKey_run I hr L S hbind hbody sr bv (.inl rfl) ru c q
  · obtain ⟨c, q⟩ := Mp.ite q
    obtain ⟨v, rfl, bv⟩ := BorL.oneD bs
    obtain ⟨u, rfl, ru⟩ := vals1 r
    exact maxKey_run I hr L S hbind hbody sr bv (.inr rfl) ru c q
  · exact q.elim
/-- max(e, key=lambda a: body) -/
theorem je_maxK {W : WX} {env : EnvD} {k : Nat} {x a : Str} {scope : Scope} {params : Arguments} {body : Expr} {fm : D → M D} {e : Expr} {m : M (List D)} {p kpos lpos pos : Pos} (hq : X.env.qual = x ++ ".<locals>.") (hcode : X.env.code = .ref (ca X.K x)) (TB : LamX.TabB X.base X.mg (ca X.K x) (ta X.K x)) (hr : Room (k + 3) X.A)
    (hg : Gl X "max") (hm : X.mg "max" = none) (S : FnScope [a] [a] scope) (hdef : defaultsOf params X.env = ([], []))
    (hbind : ∀ (q : Str) (pm cv ctv u : Value), bindArgs (PySem.W.kla_fn "<lambda>" q params body scope [] pm cv ctv) ⟨[u], []⟩ = pure [(a, u)])
    (ha : JAb X W env [e] m)
    (hbody : ∀ (A : Around) (outer : List Env) (s : Shared) (H : Hp) (E : XK) (f c' : Addr) (d : D), Room k (A.deeper (envOfC (X.env.qual ++ "<lambda>") scope s.heap.objs.size f (.ref c'))) →
      JE (cxOf (L2.CX X.prog X.w) X.prog X.w X.K X.mg X.base [a] (X.env.qual ++ "<lambda>") scope f (.ref c') A outer s H E) (fun c d _ H2 => E c d H2) [some (.val d)] body (fm d))
    (he : backTo pos (starEach [e] X.env) = (false, eval e X.env) :: backTo pos (starEach [] X.env) := by rfl) (hpl : (backTo pos (starEach [e] X.env)).any (·.1) = false := by rfl) :
    JE X W env (.Call (.Name "max" p) [e] [⟨some "key", .Lambda params body scope lpos, kpos⟩] pos) (m >>= fun ds => Op.tab x >>= fun _ => Bi.maxKey fm ds) :=
  PE.imp (pe_callBK (cr_maxK (fm := fm) hr S hbind hbody) hg hm (by decide +kernel) ha (pk_cons (pe_lam hq hcode TB S.nofree hdef) pk_nil) (by decide) (by decide) he hpl) fun σ H Q ⟨g, s, sr, eo, q⟩ => tX.bind sr eo q fun ds s1 vs H1 g1 st sr1 eo1 r q1 => by
    obtain ⟨c, q2⟩ := post_tab q1
    refine ⟨g1, s1, sr1, c, fun f H2 g2 st2 sr2 L => ?_⟩
    exact ⟨g2, s1, ds, f, rfl, sr2, r.step st2, L, NoEx.mp (nx_maxKey _ _) (Mp.step (m := Bi.maxKey fm ds) (Rl := RS X.K) q2 st2)⟩
end
end DL

set_option maxRecDepth 100000
set_option maxHeartbeats 0
/-! the mirrors of the law's slice and their derivations, printed by gen.py -/
namespace Mi
open PySem PySem.Spec PyProof.Rows L2 DL
def top (i : Nat) : Stmt := PySem.Challenge.pw_configbench_k34_ranges.main.body.getD i (.Pass ⟨0, 0, 0, 0⟩)
def c_ALL : D := (D.str ("*" : Str))
def c_BASE : D := (D.int 10000)
def c_DIGITS : D := (D.str ("0123456789" : Str))
def c_END : D := (D.int 1000000000000)
def c_LETTERS : D := (D.str ("abcdefghijklmnopqrstuvwxyz" : Str))
def c_MOST_ALTERNATIVES : D := (D.int 4)
def c_MOST_BOUNDS : D := (D.int 4)
def c_MOST_DIGITS : D := (D.int 4)
def c_MOST_SIGNS : D := (D.int 6)
def c_MOST_TEXTS : D := (D.int 20)
def c_MOST_WORDS : D := (D.int 3)
def c_PARTS : D := (D.tup [(D.str ("major" : Str)), (D.str ("minor" : Str)), (D.str ("patch" : Str))])
def c_SIGNS : D := (D.tup [(D.str ("<=" : Str)), (D.str (">=" : Str)), (D.str ("=" : Str)), (D.str ("<" : Str)), (D.str (">" : Str)), (D.str ("^" : Str)), (D.str ("~" : Str))])
def exKnown : List Str := ["InvalidRange", "InvalidVersion", "InvalidVersions"]
/-- what the top has written -/
structure Fx (K : PySem.W.Frag) (mg : Str → Option Value) : Prop where
  f_abs : mg "abs" = none
  f_all : mg "all" = none
  f_any : mg "any" = none
  f_bool : mg "bool" = none
  f_int : mg "int" = none
  f_isinstance : mg "isinstance" = none
  f_len : mg "len" = none
  f_list : mg "list" = none
  f_max : mg "max" = none
  f_min : mg "min" = none
  f_range : mg "range" = none
  f_sorted : mg "sorted" = none
  f_str : mg "str" = none
  f_sum : mg "sum" = none
  f_tuple : mg "tuple" = none
  f_zip : mg "zip" = none
  g_ALL : GlD K mg "ALL" c_ALL
  g_BASE : GlD K mg "BASE" c_BASE
  g_DIGITS : GlD K mg "DIGITS" c_DIGITS
  g_END : GlD K mg "END" c_END
  g_LETTERS : GlD K mg "LETTERS" c_LETTERS
  g_MOST_ALTERNATIVES : GlD K mg "MOST_ALTERNATIVES" c_MOST_ALTERNATIVES
  g_MOST_BOUNDS : GlD K mg "MOST_BOUNDS" c_MOST_BOUNDS
  g_MOST_DIGITS : GlD K mg "MOST_DIGITS" c_MOST_DIGITS
  g_MOST_SIGNS : GlD K mg "MOST_SIGNS" c_MOST_SIGNS
  g_MOST_TEXTS : GlD K mg "MOST_TEXTS" c_MOST_TEXTS
  g_MOST_WORDS : GlD K mg "MOST_WORDS" c_MOST_WORDS
  g_PARTS : GlT K mg "PARTS" [(D.str ("major" : Str)), (D.str ("minor" : Str)), (D.str ("patch" : Str))]
  g_SIGNS : GlT K mg "SIGNS" [(D.str ("<=" : Str)), (D.str (">=" : Str)), (D.str ("=" : Str)), (D.str ("<" : Str)), (D.str (">" : Str)), (D.str ("^" : Str)), (D.str ("~" : Str))]
  e_InvalidRange : ExT K mg "InvalidRange" ("given" : Str) (He.ga K "InvalidRange") (He.ma K (He.ga K "InvalidRange") "__init__")
  e_InvalidVersion : ExT K mg "InvalidVersion" ("given" : Str) (He.ga K "InvalidVersion") (He.ma K (He.ga K "InvalidVersion") "__init__")
  e_InvalidVersions : ExT K mg "InvalidVersions" ("given" : Str) (He.ga K "InvalidVersions") (He.ma K (He.ga K "InvalidVersions") "__init__")
  exm : ∀ c ∈ exKnown, ∀ y ∈ exKnown, PySem.W.exmOne K (.ref (He.ga K c)) (.ref (He.ga K y)) = some (exSub c y)
/-! are_digits -/
abbrev s_are_digits : Stmt := top 15
theorem sc_are_digits : FnScope ["text", "sign"] ["text"] (defScope s_are_digits) := ⟨rfl, rfl, rfl, by decide +kernel, rfl, by decide +kernel, by decide +kernel⟩
def m_are_digits : List D → M D
  | [a_text] => ((pure a_text >>= fun x8 => pure (D.str ("" : Str)) >>= fun y9 => Op.ne x8 y9) >>= fun d => truthB d >>= fun c => if c then ((((pure a_text >>= itemsOf) >>= comp fun x14 => (fun d => pure d) x14 >>= fun b11 => pure true >>= fun b => if b then (pure b11 >>= fun x12 => pure c_DIGITS >>= fun y13 => Op.isIn x12 y13) >>= fun y => pure (some y) else pure none) >>= fun x10 => pure [] >>= fun x10s => pure (x10 :: x10s)) >>= Bi.all) else pure (D.bl false))
  | _ => M.bad
theorem b_are_digits {P : Program} {w : World} {K : PySem.W.Frag} {mg : Str → Option Value} {base : Heap} (G : Fx K mg)  {f : Addr} {cdv : Value} {A : Around} {outer : List Env} {s : Shared} {H : Hp} {E : XK} (hr : Room 2 (A.deeper (envOfC "are_digits" (defScope s_are_digits) s.heap.objs.size f cdv))) (a_text : D) :
  JC (cxOf (L2.CX P w) P w K mg base ["text", "sign"] "are_digits" (defScope s_are_digits) f cdv A outer s H E) (fun c d _ H2 => E c d H2) (List.replicate 2 none) [some (.val a_text), none] (defBody s_are_digits) U0 (m_are_digits [a_text]) .fin := by
  have tk : Takes (cxOf (L2.CX P w) P w K mg base ["text", "sign"] "are_digits" (defScope s_are_digits) f cdv A outer s H E) (fun c d _ H2 => E c d H2) := takes_of rfl rfl rfl rfl
  exact (jc_retF (by first | exact weak_none rfl | exact Weak.rfl) (je_and (je_cmp (od_ne hr.units) nx_ne (JE.b (je_name 0)) (JE.b je_str) rfl) (je_one (je_callB (cd_all rfl) nx_all rfl G.f_all (by decide +kernel) (jab_cons (JE.b (JF.je (jf_lc (own := [("sign", 1)]) rfl sc_are_digits.nd (jib_any (JE.b (je_name 0))) (blk_of (by kernel_rfl)) (fun _ _ _ _ _ => (pg_name (i := 1) sc_are_digits.nd rfl (by first | exact Or.inl rfl | exact Or.inr rfl))) (go_name _ 1) (by simp) (fun _ _ _ _ _ b11 => tY) (fun _ _ _ _ _ b11 => (je_cmp (od_in hr.units) nx_isIn (JE.b (je_name 1)) (JE.b (je_gD G.g_DIGITS rfl)) rfl))))) jab_nil)))))
theorem d_are_digits {P : Program} {w : World} {K : PySem.W.Frag} {mg : Str → Option Value} {base : Heap} (G : Fx K mg)  {f : Addr} {fd : FuncData} (F : FunD K "are_digits" "are_digits" (defArgs s_are_digits) (defBody s_are_digits) (defScope s_are_digits) [] [] f fd) (hx : mg "are_digits" = some (.ref f)) : DF P w K mg base 3 "are_digits" s_are_digits ["text"] m_are_digits :=
  DF.of F hx sc_are_digits (fun _ _ _ _ _ _ us h => match us, h with | [_], _ => rfl) (fun ds s h => match ds, h with | [], _ => rfl | [_], h => absurd rfl h | _ :: _ :: _, _ => rfl) fun cdv A outer s H E ds hl hr => match ds, hl with | [a_text], _ => b_are_digits G  hr a_text
/-! key_of -/
abbrev s_key_of : Stmt := top 21
theorem sc_key_of : FnScope ["parts", "words", "word"] ["parts"] (defScope s_key_of) := ⟨rfl, rfl, rfl, by decide +kernel, rfl, by decide +kernel, by decide +kernel⟩
def m_key_of : List D → M D
  | [a_parts] => ((((pure a_parts >>= fun x12 => pure (D.int 3) >>= fun y13 => Op.idx x12 y13) >>= itemsOf) >>= comp fun x21 => (fun d => pure d) x21 >>= fun b14 => pure true >>= fun b => if b then (((pure b14 >>= Bi.isi "int") >>= truthB) >>= fun t => if t then ((pure (D.int 0) >>= fun x15 => (pure b14 >>= fun x16 => (pure (D.str ("" : Str)) >>= fun x17 => pure [] >>= fun x17s => pure (x17 :: x17s)) >>= fun x16s => pure (x16 :: x16s)) >>= fun x15s => pure (x15 :: x15s)) >>= Op.mkT) else ((pure (D.int 1) >>= fun x18 => (pure (D.int 0) >>= fun x19 => (pure b14 >>= fun x20 => pure [] >>= fun x20s => pure (x20 :: x20s)) >>= fun x19s => pure (x19 :: x19s)) >>= fun x18s => pure (x18 :: x18s)) >>= Op.mkT)) >>= fun y => pure (some y) else pure none) >>= fun v11 => (((pure a_parts >>= fun x34 => pure none >>= fun lx34 => (pure (D.int 3) >>= fun x33 => Op.asInt x33 >>= fun i => pure (some i)) >>= fun hx34 => Op.slc x34 lx34 hx34) >>= fun x32 => (((((pure a_parts >>= fun x37 => pure (D.int 3) >>= fun y38 => Op.idx x37 y38) >>= fun x39 => (pure [] >>= Op.mkT) >>= fun y40 => Op.eq x39 y40) >>= fun x36 => pure [] >>= fun x36s => pure (x36 :: x36s)) >>= Bi.int) >>= fun x35 => (pure v11 >>= fun x41 => pure [] >>= fun x41s => pure (x41 :: x41s)) >>= fun x35s => pure (x35 :: x35s)) >>= fun x32s => pure (x32 :: x32s)) >>= Op.mkT))
  | _ => M.bad
theorem b_key_of {P : Program} {w : World} {K : PySem.W.Frag} {mg : Str → Option Value} {base : Heap} (G : Fx K mg)  {f : Addr} {cdv : Value} {A : Around} {outer : List Env} {s : Shared} {H : Hp} {E : XK} (hr : Room 2 (A.deeper (envOfC "key_of" (defScope s_key_of) s.heap.objs.size f cdv))) (a_parts : D) :
  JC (cxOf (L2.CX P w) P w K mg base ["parts", "words", "word"] "key_of" (defScope s_key_of) f cdv A outer s H E) (fun c d _ H2 => E c d H2) (List.replicate 3 none) [some (.val a_parts), none, none] (defBody s_key_of) U0 (m_key_of [a_parts]) .fin := by
  have tk : Takes (cxOf (L2.CX P w) P w K mg base ["parts", "words", "word"] "key_of" (defScope s_key_of) f cdv A outer s H E) (fun c d _ H2 => E c d H2) := takes_of rfl rfl rfl rfl
  exact (jc_setLc (hl := by simp) (own := [("word", 2)]) 1 (by first | exact weak_none rfl | exact Weak.rfl) rfl sc_key_of.nd rfl (jib_any (JE.b (je_ix (JE.b (je_name 0)) (JE.b je_int) (fun _ _ => rfl)))) (blk_of (by kernel_rfl)) (fun _ _ _ _ _ => (pg_name (i := 2) sc_key_of.nd rfl (by first | exact Or.inl rfl | exact Or.inr rfl))) (go_name _ 2) (by simp) (fun _ _ _ _ _ b14 => tY) (fun _ _ _ _ _ b14 => (je_if (jt_bool (je_isi (T := "int") (by decide) rfl G.f_isinstance rfl G.f_int (by decide +kernel) (JE.b (je_name 2)))) (je_tup (ja_cons je_int (ja_cons (je_name 2) (ja_cons je_str ja_nil)))) (je_tup (ja_cons je_int (ja_cons je_int (ja_cons (je_name 2) ja_nil)))))) (fun v11 => (jc_retF (by first | exact weak_none rfl | exact Weak.rfl) (je_tup (ja_cons (je_slice (JE.b (je_name 0)) jo_none (jo_some je_int)) (ja_cons (je_callTy cd_int nx_int rfl G.f_int (by decide +kernel) (jab_cons (JE.b (je_cmp (od_eq hr.units) nx_eq (JE.b (je_ix (JE.b (je_name 0)) (JE.b je_int) (fun _ _ => rfl))) (JE.b (je_tup ja_nil)) rfl)) jab_nil)) (ja_cons (je_name 1) ja_nil)))))))
theorem d_key_of {P : Program} {w : World} {K : PySem.W.Frag} {mg : Str → Option Value} {base : Heap} (G : Fx K mg)  {f : Addr} {fd : FuncData} (F : FunD K "key_of" "key_of" (defArgs s_key_of) (defBody s_key_of) (defScope s_key_of) [] [] f fd) (hx : mg "key_of" = some (.ref f)) : DF P w K mg base 3 "key_of" s_key_of ["parts"] m_key_of :=
  DF.of F hx sc_key_of (fun _ _ _ _ _ _ us h => match us, h with | [_], _ => rfl) (fun ds s h => match ds, h with | [], _ => rfl | [_], h => absurd rfl h | _ :: _ :: _, _ => rfl) fun cdv A outer s H E ds hl hr => match ds, hl with | [a_parts], _ => b_key_of G  hr a_parts
/-! number_of -/
abbrev s_number_of : Stmt := top 30
theorem sc_number_of : FnScope ["numbers"] ["numbers"] (defScope s_number_of) := ⟨rfl, rfl, rfl, by decide +kernel, rfl, by decide +kernel, by decide +kernel⟩
def m_number_of : List D → M D
  | [a_numbers] => (((((pure a_numbers >>= fun x15 => pure (D.int 0) >>= fun y16 => Op.idx x15 y16) >>= fun x17 => pure c_BASE >>= fun y18 => Op.mul x17 y18) >>= fun x21 => (pure a_numbers >>= fun x19 => pure (D.int 1) >>= fun y20 => Op.idx x19 y20) >>= fun y22 => Op.add x21 y22) >>= fun x23 => pure c_BASE >>= fun y24 => Op.mul x23 y24) >>= fun x27 => (pure a_numbers >>= fun x25 => pure (D.int 2) >>= fun y26 => Op.idx x25 y26) >>= fun y28 => Op.add x27 y28)
  | _ => M.bad
theorem b_number_of {P : Program} {w : World} {K : PySem.W.Frag} {mg : Str → Option Value} {base : Heap} (G : Fx K mg)  {f : Addr} {cdv : Value} {A : Around} {outer : List Env} {s : Shared} {H : Hp} {E : XK} (hr : Room 2 (A.deeper (envOfC "number_of" (defScope s_number_of) s.heap.objs.size f cdv))) (a_numbers : D) :
  JC (cxOf (L2.CX P w) P w K mg base ["numbers"] "number_of" (defScope s_number_of) f cdv A outer s H E) (fun c d _ H2 => E c d H2) (List.replicate 1 none) [some (.val a_numbers)] (defBody s_number_of) U0 (m_number_of [a_numbers]) .fin := by
  have tk : Takes (cxOf (L2.CX P w) P w K mg base ["numbers"] "number_of" (defScope s_number_of) f cdv A outer s H E) (fun c d _ H2 => E c d H2) := takes_of rfl rfl rfl rfl
  exact (jc_retF (by first | exact weak_none rfl | exact Weak.rfl) (je_op od_add nx_add (JE.b (je_op od_mul nx_mul (JE.b (je_op od_add nx_add (JE.b (je_op od_mul nx_mul (JE.b (je_ix (JE.b (je_name 0)) (JE.b je_int) (fun _ _ => rfl))) (JE.b (je_gD G.g_BASE rfl)))) (JE.b (je_ix (JE.b (je_name 0)) (JE.b je_int) (fun _ _ => rfl))))) (JE.b (je_gD G.g_BASE rfl)))) (JE.b (je_ix (JE.b (je_name 0)) (JE.b je_int) (fun _ _ => rfl)))))
theorem d_number_of {P : Program} {w : World} {K : PySem.W.Frag} {mg : Str → Option Value} {base : Heap} (G : Fx K mg)  {f : Addr} {fd : FuncData} (F : FunD K "number_of" "number_of" (defArgs s_number_of) (defBody s_number_of) (defScope s_number_of) [] [] f fd) (hx : mg "number_of" = some (.ref f)) : DF P w K mg base 3 "number_of" s_number_of ["numbers"] m_number_of :=
  DF.of F hx sc_number_of (fun _ _ _ _ _ _ us h => match us, h with | [_], _ => rfl) (fun ds s h => match ds, h with | [], _ => rfl | [_], h => absurd rfl h | _ :: _ :: _, _ => rfl) fun cdv A outer s H E ds hl hr => match ds, hl with | [a_numbers], _ => b_number_of G  hr a_numbers
/-! joined -/
abbrev s_joined : Stmt := top 35
theorem sc_joined : FnScope ["rows", "found", "low", "high", "row"] ["rows"] (defScope s_joined) := ⟨rfl, rfl, rfl, by decide +kernel, rfl, by decide +kernel, by decide +kernel⟩
def m_joined : List D → M D
  | [a_rows] => ((pure [] >>= Op.mkL) >>= lstK fun w1 => (((((((pure a_rows >>= itemsOf) >>= comp fun x11 => (fun d => pure d) x11 >>= fun b4 => ((pure b4 >>= fun x5 => pure (D.int 0) >>= fun y6 => Op.idx x5 y6) >>= fun x9 => (pure b4 >>= fun x7 => pure (D.int 1) >>= fun y8 => Op.idx x7 y8) >>= fun y10 => Op.ltG x9 y10 >>= truthB) >>= fun b => if b then pure b4 >>= fun y => pure (some y) else pure none) >>= fun x3 => pure [] >>= fun x3s => pure (x3 :: x3s)) >>= Bi.sortedQ) >>= itemsOf) >>= fun xs => forN (fun x39 (t2 : List D) => un2 x39 >>= fun b12 => (((pure (D.lst t2) >>= fun x13 => (pure [] >>= Op.mkL) >>= fun y14 => Op.ne x13 y14 >>= truthB) >>= fun c => if c then (pure b12.1 >>= fun x19 => ((pure (D.lst t2) >>= fun x15 => (pure (D.int 1) >>= Op.neg) >>= fun y16 => Op.idx x15 y16) >>= fun x17 => pure (D.int 1) >>= fun y18 => Op.idx x17 y18) >>= fun y20 => Op.leG x19 y20 >>= truthB) else pure false) >>= fun b => if b then (((((pure (D.lst t2) >>= fun x22 => (pure (D.int 1) >>= Op.neg) >>= fun y23 => Op.idx x22 y23) >>= fun x24 => pure (D.int 0) >>= fun y25 => Op.idx x24 y25) >>= fun x21 => (((pure b12.2 >>= fun x27 => (((pure (D.lst t2) >>= fun x29 => (pure (D.int 1) >>= Op.neg) >>= fun y30 => Op.idx x29 y30) >>= fun x31 => pure (D.int 1) >>= fun y32 => Op.idx x31 y32) >>= fun x28 => pure [] >>= fun x28s => pure (x28 :: x28s)) >>= fun x27s => pure (x27 :: x27s)) >>= Bi.max) >>= fun x26 => pure [] >>= fun x26s => pure (x26 :: x26s)) >>= fun x21s => pure (x21 :: x21s)) >>= Op.mkT) >>= fun v33 => (pure (D.int 1) >>= Op.neg) >>= fun d34 => Op.place (List.length t2) d34 >>= fun j35 => pure (List.set t2 j35 v33)) else (((pure b12.1 >>= fun x36 => (pure b12.2 >>= fun x37 => pure [] >>= fun x37s => pure (x37 :: x37s)) >>= fun x36s => pure (x36 :: x36s)) >>= Op.mkT) >>= fun v38 => if Op.lenOk (List.length t2 + 1) then pure (t2 ++ [v38]) else M.bad))) xs w1) >>= fun (t2 : List D) => pure (D.lst t2)))
  | _ => M.bad
theorem b_joined {P : Program} {w : World} {K : PySem.W.Frag} {mg : Str → Option Value} {base : Heap} (G : Fx K mg)  {f : Addr} {cdv : Value} {A : Around} {outer : List Env} {s : Shared} {H : Hp} {E : XK} (hr : Room 2 (A.deeper (envOfC "joined" (defScope s_joined) s.heap.objs.size f cdv))) (a_rows : D) :
  JC (cxOf (L2.CX P w) P w K mg base ["rows", "found", "low", "high", "row"] "joined" (defScope s_joined) f cdv A outer s H E) (fun c d _ H2 => E c d H2) (List.replicate 5 none) [some (.val a_rows), none, none, none, none] (defBody s_joined) U0 (m_joined [a_rows]) .fin := by
  have tk : Takes (cxOf (L2.CX P w) P w K mg base ["rows", "found", "low", "high", "row"] "joined" (defScope s_joined) f cdv A outer s H E) (fun c d _ H2 => E c d H2) := takes_of rfl rfl rfl rfl
  exact (jc_setOwn 1 (by first | exact weak_none rfl | exact Weak.rfl) sc_joined.nd (jf_lst ja_nil) (jc_lstK (f := fun d => _) fun w1 => (jc_nx (j1_forN (eN := (fun (t2 : List D) => ([some (.val a_rows), some (.own (.lst t2)), none, none, none] : EnvD))) (t0 := w1) (passes_of rfl) rfl (by first | exact weak_none rfl | exact Weak.rfl) (ji_any (je_callB (cd_sortedQ hr.units) nx_sortedQ rfl G.f_sorted (by decide +kernel) (jab_cons (JE.b (JF.je (jf_lc (own := [("row", 4)]) rfl sc_joined.nd (jib_any (JE.b (je_name 0))) (blk_of (by kernel_rfl)) (fun _ _ _ _ _ => (pg_name (i := 4) sc_joined.nd rfl (by first | exact Or.inl rfl | exact Or.inr rfl))) (go_name _ 4) (by simp) (fun _ _ _ _ _ b4 => (t1 (jt_cmp (od_ltG hr.units) nx_ltG (JE.b (je_ix (JE.b (je_name 4)) (JE.b je_int) (fun _ _ => rfl))) (JE.b (je_ix (JE.b (je_name 4)) (JE.b je_int) (fun _ _ => rfl))) rfl))) (fun _ _ _ _ _ b4 => (je_name 4))))) jab_nil))) (pg_tup rfl (pgs_cons (pg_name (i := 2) sc_joined.nd rfl (by first | exact Or.inl rfl | exact Or.inr rfl)) (pgs_cons (pg_name (i := 3) sc_joined.nd rfl (by first | exact Or.inl rfl | exact Or.inr rfl)) pgs_nil))) (go_tup2 _ 2 3) (by repeat (first | exact Weak.nil | refine Weak.same ?_ | refine Weak.none ?_)) (fun t2 b12 => (jc_if (by first | exact weak_none rfl | exact Weak.rfl) (jt_w (jw_and (jt_cmp (od_ne hr.units) nx_ne (jb_own 1) (JE.b (je_lst ja_nil)) rfl) (jw_and1 (jt_cmp (od_leG hr.units) nx_leG (JE.b (je_name 2)) (JE.b (je_ix (JE.b (je_ix (jb_own 1) (JE.b (je_neg (JE.b je_int))) (fun _ _ => rfl))) (JE.b je_int) (fun _ _ => rfl))) rfl)))) (jc_setIx 1 (by first | exact weak_none rfl | exact Weak.rfl) (je_tup (ja_cons (je_ix (JE.b (je_ix (jb_own 1) (JE.b (je_neg (JE.b je_int))) (fun _ _ => rfl))) (JE.b je_int) (fun _ _ => rfl)) (ja_cons (je_callB (cd_max rfl) nx_max rfl G.f_max (by decide +kernel) (jab_cons (JE.b (je_name 3)) (jab_cons (JE.b (je_ix (JE.b (je_ix (jb_own 1) (JE.b (je_neg (JE.b je_int))) (fun _ _ => rfl))) (JE.b je_int) (fun _ _ => rfl))) jab_nil))) ja_nil))) (je_neg (JE.b je_int)) (fun v33 j35 => (jc_end (jc_nil (by repeat (first | exact Weak.nil | refine Weak.same ?_ | refine Weak.none ?_)) (.inr rfl))))) (jc_append 1 (by first | exact weak_none rfl | exact Weak.rfl) (je_tup (ja_cons (je_name 2) (ja_cons (je_name 3) ja_nil))) (fun v38 => (jc_end (jc_nil (by repeat (first | exact Weak.nil | refine Weak.same ?_ | refine Weak.none ?_)) (.inr rfl)))))))) (fun t2 => (jc_freeze 1 rfl (jc_retF (by first | exact weak_none rfl | exact Weak.rfl) (je_name 1)))))))
theorem d_joined {P : Program} {w : World} {K : PySem.W.Frag} {mg : Str → Option Value} {base : Heap} (G : Fx K mg)  {f : Addr} {fd : FuncData} (F : FunD K "joined" "joined" (defArgs s_joined) (defBody s_joined) (defScope s_joined) [] [] f fd) (hx : mg "joined" = some (.ref f)) : DF P w K mg base 3 "joined" s_joined ["rows"] m_joined :=
  DF.of F hx sc_joined (fun _ _ _ _ _ _ us h => match us, h with | [_], _ => rfl) (fun ds s h => match ds, h with | [], _ => rfl | [_], h => absurd rfl h | _ :: _ :: _, _ => rfl) fun cdv A outer s H E ds hl hr => match ds, hl with | [a_rows], _ => b_joined G  hr a_rows
/-! has_number -/
abbrev s_has_number : Stmt := top 39
theorem sc_has_number : FnScope ["rows", "number", "low", "high"] ["rows", "number"] (defScope s_has_number) := ⟨rfl, rfl, rfl, by decide +kernel, rfl, by decide +kernel, by decide +kernel⟩
def m_has_number : List D → M D
  | [a_rows, a_number] => ((((pure a_rows >>= itemsOf) >>= comp fun x12 => un2 x12 >>= fun b8 => pure true >>= fun b => if b then (pure b8.1 >>= fun x9 => pure a_number >>= fun y10 => Op.leG x9 y10 >>= fun r => truthB r >>= fun t => if t then pure b8.2 >>= fun z11 => Op.ltG y10 z11 else pure (D.bl false)) >>= fun y => pure (some y) else pure none) >>= fun x7 => pure [] >>= fun x7s => pure (x7 :: x7s)) >>= Bi.any)
  | _ => M.bad
theorem b_has_number {P : Program} {w : World} {K : PySem.W.Frag} {mg : Str → Option Value} {base : Heap} (G : Fx K mg)  {f : Addr} {cdv : Value} {A : Around} {outer : List Env} {s : Shared} {H : Hp} {E : XK} (hr : Room 2 (A.deeper (envOfC "has_number" (defScope s_has_number) s.heap.objs.size f cdv))) (a_rows a_number : D) :
  JC (cxOf (L2.CX P w) P w K mg base ["rows", "number", "low", "high"] "has_number" (defScope s_has_number) f cdv A outer s H E) (fun c d _ H2 => E c d H2) (List.replicate 4 none) [some (.val a_rows), some (.val a_number), none, none] (defBody s_has_number) U0 (m_has_number [a_rows, a_number]) .fin := by
  have tk : Takes (cxOf (L2.CX P w) P w K mg base ["rows", "number", "low", "high"] "has_number" (defScope s_has_number) f cdv A outer s H E) (fun c d _ H2 => E c d H2) := takes_of rfl rfl rfl rfl
  exact (jc_retF (by first | exact weak_none rfl | exact Weak.rfl) (je_callB (cd_any rfl) nx_any rfl G.f_any (by decide +kernel) (jab_cons (JE.b (JF.je (jf_lc (own := [("low", 2), ("high", 3)]) rfl sc_has_number.nd (jib_any (JE.b (je_name 0))) (blk_of (by kernel_rfl)) (fun _ _ _ _ _ => (pg_tup rfl (pgs_cons (pg_name (i := 2) sc_has_number.nd rfl (by first | exact Or.inl rfl | exact Or.inr rfl)) (pgs_cons (pg_name (i := 3) sc_has_number.nd rfl (by first | exact Or.inl rfl | exact Or.inr rfl)) pgs_nil)))) (go_tup2 _ 2 3) (by simp) (fun _ _ _ _ _ b8 => tY) (fun _ _ _ _ _ b8 => (je_chain (od_leG hr.units) (od_ltG hr.units) nx_leG nx_ltG (JE.b (je_name 2)) (JE.b (je_name 1)) (JE.b (je_name 3))))))) jab_nil)))
theorem d_has_number {P : Program} {w : World} {K : PySem.W.Frag} {mg : Str → Option Value} {base : Heap} (G : Fx K mg)  {f : Addr} {fd : FuncData} (F : FunD K "has_number" "has_number" (defArgs s_has_number) (defBody s_has_number) (defScope s_has_number) [] [] f fd) (hx : mg "has_number" = some (.ref f)) : DF P w K mg base 3 "has_number" s_has_number ["rows", "number"] m_has_number :=
  DF.of F hx sc_has_number (fun _ _ _ _ _ _ us h => match us, h with | [_, _], _ => rfl) (fun ds s h => match ds, h with | [], _ => rfl | [_], _ => rfl | [_, _], h => absurd rfl h | _ :: _ :: _ :: _, _ => rfl) fun cdv A outer s H E ds hl hr => match ds, hl with | [a_rows, a_number], _ => b_has_number G  hr a_rows a_number
/-! _law_cell -/
abbrev s__law_cell : Stmt := top 44
theorem sc__law_cell : FnScope ["script", "k"] ["script", "k"] (defScope s__law_cell) := ⟨rfl, rfl, rfl, by decide +kernel, rfl, by decide +kernel, by decide +kernel⟩
def m__law_cell : List D → M D
  | [a_script, a_k] => ((pure a_k >>= fun x17 => ((pure a_script >>= fun x16 => pure [] >>= fun x16s => pure (x16 :: x16s)) >>= Bi.len) >>= fun y18 => Op.ltG x17 y18 >>= truthB) >>= fun t => if t then (pure a_script >>= fun x19 => pure a_k >>= fun y20 => Op.idx x19 y20) else ((pure (D.int 6007) >>= fun x21 => pure a_k >>= fun y22 => Op.mul x21 y22) >>= fun x29 => ((((((pure a_script >>= fun x26 => pure none >>= fun lx26 => (pure (D.int 1) >>= fun x25 => Op.asInt x25 >>= fun i => pure (some i)) >>= fun hx26 => Op.slc x26 lx26 hx26) >>= fun x24 => pure [] >>= fun x24s => pure (x24 :: x24s)) >>= Bi.sum) >>= fun x23 => pure [] >>= fun x23s => pure (x23 :: x23s)) >>= Bi.int) >>= fun x27 => pure (D.int 1000033) >>= fun y28 => Op.mod x27 y28) >>= fun y30 => Op.add x29 y30))
  | _ => M.bad
theorem b__law_cell {P : Program} {w : World} {K : PySem.W.Frag} {mg : Str → Option Value} {base : Heap} (G : Fx K mg)  {f : Addr} {cdv : Value} {A : Around} {outer : List Env} {s : Shared} {H : Hp} {E : XK} (hr : Room 2 (A.deeper (envOfC "_law_cell" (defScope s__law_cell) s.heap.objs.size f cdv))) (a_script a_k : D) :
  JC (cxOf (L2.CX P w) P w K mg base ["script", "k"] "_law_cell" (defScope s__law_cell) f cdv A outer s H E) (fun c d _ H2 => E c d H2) (List.replicate 2 none) [some (.val a_script), some (.val a_k)] (defBody s__law_cell) U0 (m__law_cell [a_script, a_k]) .fin := by
  have tk : Takes (cxOf (L2.CX P w) P w K mg base ["script", "k"] "_law_cell" (defScope s__law_cell) f cdv A outer s H E) (fun c d _ H2 => E c d H2) := takes_of rfl rfl rfl rfl
  exact (jc_retF (by first | exact weak_none rfl | exact Weak.rfl) (je_if (jt_cmp (od_ltG hr.units) nx_ltG (JE.b (je_name 1)) (JE.b (je_callB cd_len nx_len rfl G.f_len (by decide +kernel) (jab_cons (JE.b (je_name 0)) jab_nil))) rfl) (je_ix (JE.b (je_name 0)) (JE.b (je_name 1)) (fun _ _ => rfl)) (je_op od_add nx_add (JE.b (je_op od_mul nx_mul (JE.b je_int) (JE.b (je_name 1)))) (JE.b (je_op od_mod nx_mod (JE.b (je_callTy cd_int nx_int rfl G.f_int (by decide +kernel) (jab_cons (JE.b (je_callB (cd_sum rfl) nx_sum rfl G.f_sum (by decide +kernel) (jab_cons (JE.b (je_slice (JE.b (je_name 0)) jo_none (jo_some je_int))) jab_nil))) jab_nil))) (JE.b je_int))))))
theorem d__law_cell {P : Program} {w : World} {K : PySem.W.Frag} {mg : Str → Option Value} {base : Heap} (G : Fx K mg)  {f : Addr} {fd : FuncData} (F : FunD K "_law_cell" "_law_cell" (defArgs s__law_cell) (defBody s__law_cell) (defScope s__law_cell) [] [] f fd) (hx : mg "_law_cell" = some (.ref f)) : DF P w K mg base 3 "_law_cell" s__law_cell ["script", "k"] m__law_cell :=
  DF.of F hx sc__law_cell (fun _ _ _ _ _ _ us h => match us, h with | [_, _], _ => rfl) (fun ds s h => match ds, h with | [], _ => rfl | [_], _ => rfl | [_, _], h => absurd rfl h | _ :: _ :: _ :: _, _ => rfl) fun cdv A outer s H E ds hl hr => match ds, hl with | [a_script, a_k], _ => b__law_cell G  hr a_script a_k
/-! _law_box -/
abbrev s__law_box : Stmt := top 45
theorem sc__law_box : FnScope ["great"] ["great"] (defScope s__law_box) := ⟨rfl, rfl, rfl, by decide +kernel, rfl, by decide +kernel, by decide +kernel⟩
def m__law_box : List D → M D
  | [a_great] => (((((pure a_great >>= fun x2 => pure [] >>= fun x2s => pure (x2 :: x2s)) >>= Bi.abs) >>= fun x1 => ((((pure a_great >>= fun x4 => pure [] >>= fun x4s => pure (x4 :: x4s)) >>= Bi.abs) >>= fun x7 => (pure (D.int 10) >>= fun x5 => pure (D.int 18) >>= fun y6 => Op.pow x5 y6) >>= fun y8 => Op.geG x7 y8) >>= fun x3 => ((((((pure a_great >>= fun x11 => pure [] >>= fun x11s => pure (x11 :: x11s)) >>= Bi.abs) >>= fun x10 => pure [] >>= fun x10s => pure (x10 :: x10s)) >>= Bi.int) >>= fun x12 => pure (D.int 2147483629) >>= fun y13 => Op.mod x12 y13) >>= fun x9 => (pure (D.int 0) >>= fun x14 => pure [] >>= fun x14s => pure (x14 :: x14s)) >>= fun x9s => pure (x9 :: x9s)) >>= fun x3s => pure (x3 :: x3s)) >>= fun x1s => pure (x1 :: x1s)) >>= Op.mkL) >>= alloc)
  | _ => M.bad
theorem b__law_box {P : Program} {w : World} {K : PySem.W.Frag} {mg : Str → Option Value} {base : Heap} (G : Fx K mg)  {f : Addr} {cdv : Value} {A : Around} {outer : List Env} {s : Shared} {H : Hp} {E : XK} (hr : Room 2 (A.deeper (envOfC "_law_box" (defScope s__law_box) s.heap.objs.size f cdv))) (a_great : D) :
  JC (cxOf (L2.CX P w) P w K mg base ["great"] "_law_box" (defScope s__law_box) f cdv A outer s H E) (fun c d _ H2 => E c d H2) (List.replicate 1 none) [some (.val a_great)] (defBody s__law_box) U0 (m__law_box [a_great]) .fin := by
  have tk : Takes (cxOf (L2.CX P w) P w K mg base ["great"] "_law_box" (defScope s__law_box) f cdv A outer s H E) (fun c d _ H2 => E c d H2) := takes_of rfl rfl rfl rfl
  exact (jc_retF (by first | exact weak_none rfl | exact Weak.rfl) (je_box (jf_lst (ja_cons (je_callB cd_abs nx_abs rfl G.f_abs (by decide +kernel) (jab_cons (JE.b (je_name 0)) jab_nil)) (ja_cons (je_cmp (od_geG hr.units) nx_geG (JE.b (je_callB cd_abs nx_abs rfl G.f_abs (by decide +kernel) (jab_cons (JE.b (je_name 0)) jab_nil))) (JE.b (je_op od_pow nx_pow (JE.b je_int) (JE.b je_int))) rfl) (ja_cons (je_op od_mod nx_mod (JE.b (je_callTy cd_int nx_int rfl G.f_int (by decide +kernel) (jab_cons (JE.b (je_callB cd_abs nx_abs rfl G.f_abs (by decide +kernel) (jab_cons (JE.b (je_name 0)) jab_nil))) jab_nil))) (JE.b je_int)) (ja_cons je_int ja_nil)))))))
theorem d__law_box {P : Program} {w : World} {K : PySem.W.Frag} {mg : Str → Option Value} {base : Heap} (G : Fx K mg)  {f : Addr} {fd : FuncData} (F : FunD K "_law_box" "_law_box" (defArgs s__law_box) (defBody s__law_box) (defScope s__law_box) [] [] f fd) (hx : mg "_law_box" = some (.ref f)) : DF P w K mg base 3 "_law_box" s__law_box ["great"] m__law_box :=
  DF.of F hx sc__law_box (fun _ _ _ _ _ _ us h => match us, h with | [_], _ => rfl) (fun ds s h => match ds, h with | [], _ => rfl | [_], h => absurd rfl h | _ :: _ :: _, _ => rfl) fun cdv A outer s H E ds hl hr => match ds, hl with | [a_great], _ => b__law_box G  hr a_great
/-! _law_take -/
abbrev s__law_take : Stmt := top 46
theorem sc__law_take : FnScope ["box", "many", "mixed", "digit"] ["box", "many"] (defScope s__law_take) := ⟨rfl, rfl, rfl, by decide +kernel, rfl, by decide +kernel, by decide +kernel⟩
def m__law_take : List D → M D
  | [a_box, a_many] => ((((pure a_box >>= fun x1 => pure (D.int 1) >>= fun y2 => Op.idx x1 y2) >>= truthB) >>= fun c => if c then ((pure a_box >>= fun x3 => pure (D.int 0) >>= fun y4 => Op.idx x3 y4) >>= fun x5 => pure (D.int 0) >>= fun y6 => Op.gtG x5 y6 >>= truthB) else pure false) >>= fun b => if b then (((((pure a_box >>= fun x14 => pure (D.int 0) >>= fun y15 => Op.idx x14 y15) >>= fun x13 => pure [] >>= fun x13s => pure (x13 :: x13s)) >>= Bi.int) >>= fun x16 => pure a_many >>= fun y17 => Op.mod x16 y17) >>= fun v12 => (((pure a_box >>= fun x18 => pure (D.int 0) >>= fun y19 => Op.idx x18 y19) >>= fun x20 => pure a_many >>= fun y21 => Op.fdiv x20 y21) >>= fun v22 => pure a_box >>= fun c23 => pure (D.int 0) >>= fun j24 => Op.setIx c23 j24 v22 >>= fun _ => pure v12)) else (((pure a_box >>= fun x25 => pure (D.int 3) >>= fun y26 => Op.idx x25 y26) >>= fun x27 => pure (D.int 1) >>= fun y28 => Op.add x27 y28) >>= fun v96 => pure a_box >>= fun c97 => pure (D.int 3) >>= fun j98 => Op.setIx c97 j98 v96 >>= fun _ => ((((((((pure a_box >>= fun x46 => pure (D.int 2) >>= fun y47 => Op.idx x46 y47) >>= fun x52 => (pure (D.int 15485863) >>= fun x50 => (pure a_box >>= fun x48 => pure (D.int 3) >>= fun y49 => Op.idx x48 y49) >>= fun y51 => Op.mul x50 y51) >>= fun y53 => Op.add x52 y53) >>= fun x54 => pure (D.int 179424673) >>= fun y55 => Op.add x54 y55) >>= fun x56 => pure (D.int 5) >>= fun y57 => Op.pow x56 y57) >>= fun x45 => pure [] >>= fun x45s => pure (x45 :: x45s)) >>= Bi.int) >>= fun x58 => pure (D.int 2147483647) >>= fun y59 => Op.mod x58 y59) >>= fun v44 => ((((((((((pure v44 >>= fun x80 => pure (D.int 48271) >>= fun y81 => Op.mul x80 y81) >>= fun x86 => (pure (D.int 104729) >>= fun x84 => (pure a_box >>= fun x82 => pure (D.int 3) >>= fun y83 => Op.idx x82 y83) >>= fun y85 => Op.mul x84 y85) >>= fun y87 => Op.add x86 y87) >>= fun x88 => pure (D.int 3) >>= fun y89 => Op.pow x88 y89) >>= fun x79 => pure [] >>= fun x79s => pure (x79 :: x79s)) >>= Bi.int) >>= fun x90 => pure (D.int 2147483587) >>= fun y91 => Op.mod x90 y91) >>= fun x92 => pure (D.int 64) >>= fun y93 => Op.fdiv x92 y93) >>= fun x78 => pure [] >>= fun x78s => pure (x78 :: x78s)) >>= Bi.int) >>= fun x94 => pure a_many >>= fun y95 => Op.mod x94 y95))))
  | _ => M.bad
theorem b__law_take {P : Program} {w : World} {K : PySem.W.Frag} {mg : Str → Option Value} {base : Heap} (G : Fx K mg)  {f : Addr} {cdv : Value} {A : Around} {outer : List Env} {s : Shared} {H : Hp} {E : XK} (hr : Room 2 (A.deeper (envOfC "_law_take" (defScope s__law_take) s.heap.objs.size f cdv))) (a_box a_many : D) :
  JC (cxOf (L2.CX P w) P w K mg base ["box", "many", "mixed", "digit"] "_law_take" (defScope s__law_take) f cdv A outer s H E) (fun c d _ H2 => E c d H2) (List.replicate 4 none) [some (.val a_box), some (.val a_many), none, none] (defBody s__law_take) U0 (m__law_take [a_box, a_many]) .fin := by
  have tk : Takes (cxOf (L2.CX P w) P w K mg base ["box", "many", "mixed", "digit"] "_law_take" (defScope s__law_take) f cdv A outer s H E) (fun c d _ H2 => E c d H2) := takes_of rfl rfl rfl rfl
  exact (jc_if (by first | exact weak_none rfl | exact Weak.rfl) (jt_w (jw_and (jt_bool (je_ix (JE.b (je_name 0)) (JE.b je_int) (fun _ _ => rfl))) (jw_and1 (jt_cmp (od_gtG hr.units) nx_gtG (JE.b (je_ix (JE.b (je_name 0)) (JE.b je_int) (fun _ _ => rfl))) (JE.b je_int) rfl)))) (jc_set 3 (by first | exact weak_none rfl | exact Weak.rfl) sc__law_take.nd (je_op od_mod nx_mod (JE.b (je_callTy cd_int nx_int rfl G.f_int (by decide +kernel) (jab_cons (JE.b (je_ix (JE.b (je_name 0)) (JE.b je_int) (fun _ _ => rfl))) jab_nil))) (JE.b (je_name 1))) (fun v12 => (jc_cell (by first | exact weak_none rfl | exact Weak.rfl) (je_op od_fdiv nx_fdiv (JE.b (je_ix (JE.b (je_name 0)) (JE.b je_int) (fun _ _ => rfl))) (JE.b (je_name 1))) (je_name 0) je_int (jc_retF (by first | exact weak_none rfl | exact Weak.rfl) (je_name 3))))) (jc_end (jc_cell (by first | exact weak_none rfl | exact Weak.rfl) (je_op od_add nx_add (JE.b (je_ix (JE.b (je_name 0)) (JE.b je_int) (fun _ _ => rfl))) (JE.b je_int)) (je_name 0) je_int (jc_set 2 (by first | exact weak_none rfl | exact Weak.rfl) sc__law_take.nd (je_op od_mod nx_mod (JE.b (je_callTy cd_int nx_int rfl G.f_int (by decide +kernel) (jab_cons (JE.b (je_op od_pow nx_pow (JE.b (je_op od_add nx_add (JE.b (je_op od_add nx_add (JE.b (je_ix (JE.b (je_name 0)) (JE.b je_int) (fun _ _ => rfl))) (JE.b (je_op od_mul nx_mul (JE.b je_int) (JE.b (je_ix (JE.b (je_name 0)) (JE.b je_int) (fun _ _ => rfl))))))) (JE.b je_int))) (JE.b je_int))) jab_nil))) (JE.b je_int)) (fun v44 => (jc_retF (by first | exact weak_none rfl | exact Weak.rfl) (je_op od_mod nx_mod (JE.b (je_callTy cd_int nx_int rfl G.f_int (by decide +kernel) (jab_cons (JE.b (je_op od_fdiv nx_fdiv (JE.b (je_op od_mod nx_mod (JE.b (je_callTy cd_int nx_int rfl G.f_int (by decide +kernel) (jab_cons (JE.b (je_op od_pow nx_pow (JE.b (je_op od_add nx_add (JE.b (je_op od_mul nx_mul (JE.b (je_name 2)) (JE.b je_int))) (JE.b (je_op od_mul nx_mul (JE.b je_int) (JE.b (je_ix (JE.b (je_name 0)) (JE.b je_int) (fun _ _ => rfl))))))) (JE.b je_int))) jab_nil))) (JE.b je_int))) (JE.b je_int))) jab_nil))) (JE.b (je_name 1)))))))))
theorem d__law_take {P : Program} {w : World} {K : PySem.W.Frag} {mg : Str → Option Value} {base : Heap} (G : Fx K mg)  {f : Addr} {fd : FuncData} (F : FunD K "_law_take" "_law_take" (defArgs s__law_take) (defBody s__law_take) (defScope s__law_take) [] [] f fd) (hx : mg "_law_take" = some (.ref f)) : DF P w K mg base 3 "_law_take" s__law_take ["box", "many"] m__law_take :=
  DF.of F hx sc__law_take (fun _ _ _ _ _ _ us h => match us, h with | [_, _], _ => rfl) (fun ds s h => match ds, h with | [], _ => rfl | [_], _ => rfl | [_, _], h => absurd rfl h | _ :: _ :: _ :: _, _ => rfl) fun cdv A outer s H E ds hl hr => match ds, hl with | [a_box, a_many], _ => b__law_take G  hr a_box a_many
/-! _law_is_digits -/
abbrev s__law_is_digits : Stmt := top 48
theorem sc__law_is_digits : FnScope ["text", "c"] ["text"] (defScope s__law_is_digits) := ⟨rfl, rfl, rfl, by decide +kernel, rfl, by decide +kernel, by decide +kernel⟩
def m__law_is_digits : List D → M D
  | [a_text] => ((pure a_text >>= fun x9 => pure (D.str ("" : Str)) >>= fun y10 => Op.ne x9 y10) >>= fun d => truthB d >>= fun c => if c then (((pure a_text >>= itemsOf) >>= comp fun x14 => (fun d => pure d) x14 >>= fun b11 => (pure b11 >>= fun x12 => pure (D.str ("0123456789" : Str)) >>= fun y13 => Op.notIn x12 y13 >>= truthB) >>= fun b => if b then pure b11 >>= fun y => pure (some y) else pure none) >>= fun x15 => (pure [] >>= Op.mkL) >>= fun y16 => Op.eq x15 y16) else pure (D.bl false))
  | _ => M.bad
theorem b__law_is_digits {P : Program} {w : World} {K : PySem.W.Frag} {mg : Str → Option Value} {base : Heap} (G : Fx K mg)  {f : Addr} {cdv : Value} {A : Around} {outer : List Env} {s : Shared} {H : Hp} {E : XK} (hr : Room 2 (A.deeper (envOfC "_law_is_digits" (defScope s__law_is_digits) s.heap.objs.size f cdv))) (a_text : D) :
  JC (cxOf (L2.CX P w) P w K mg base ["text", "c"] "_law_is_digits" (defScope s__law_is_digits) f cdv A outer s H E) (fun c d _ H2 => E c d H2) (List.replicate 2 none) [some (.val a_text), none] (defBody s__law_is_digits) U0 (m__law_is_digits [a_text]) .fin := by
  have tk : Takes (cxOf (L2.CX P w) P w K mg base ["text", "c"] "_law_is_digits" (defScope s__law_is_digits) f cdv A outer s H E) (fun c d _ H2 => E c d H2) := takes_of rfl rfl rfl rfl
  exact (jc_retF (by first | exact weak_none rfl | exact Weak.rfl) (je_and (je_cmp (od_ne hr.units) nx_ne (JE.b (je_name 0)) (JE.b je_str) rfl) (je_one (je_cmp (od_eq hr.units) nx_eq (JE.b (JF.je (jf_lc (own := [("c", 1)]) rfl sc__law_is_digits.nd (jib_any (JE.b (je_name 0))) (blk_of (by kernel_rfl)) (fun _ _ _ _ _ => (pg_name (i := 1) sc__law_is_digits.nd rfl (by first | exact Or.inl rfl | exact Or.inr rfl))) (go_name _ 1) (by simp) (fun _ _ _ _ _ b11 => (t1 (jt_cmp (od_notIn hr.units) nx_notIn (JE.b (je_name 1)) (JE.b je_str) rfl))) (fun _ _ _ _ _ b11 => (je_name 1))))) (JE.b (je_lst ja_nil)) rfl))))
theorem d__law_is_digits {P : Program} {w : World} {K : PySem.W.Frag} {mg : Str → Option Value} {base : Heap} (G : Fx K mg)  {f : Addr} {fd : FuncData} (F : FunD K "_law_is_digits" "_law_is_digits" (defArgs s__law_is_digits) (defBody s__law_is_digits) (defScope s__law_is_digits) [] [] f fd) (hx : mg "_law_is_digits" = some (.ref f)) : DF P w K mg base 3 "_law_is_digits" s__law_is_digits ["text"] m__law_is_digits :=
  DF.of F hx sc__law_is_digits (fun _ _ _ _ _ _ us h => match us, h with | [_], _ => rfl) (fun ds s h => match ds, h with | [], _ => rfl | [_], h => absurd rfl h | _ :: _ :: _, _ => rfl) fun cdv A outer s H E ds hl hr => match ds, hl with | [a_text], _ => b__law_is_digits G  hr a_text
/-! _law_text -/
abbrev s__law_text : Stmt := top 51
theorem sc__law_text : FnScope ["parts", "head", "word"] ["parts"] (defScope s__law_text) := ⟨rfl, rfl, rfl, by decide +kernel, rfl, by decide +kernel, by decide +kernel⟩
def m__law_text : List D → M D
  | [a_parts] => ((((((((pure a_parts >>= fun x20 => pure (D.int 0) >>= fun y21 => Op.idx x20 y21) >>= fun x19 => pure [] >>= fun x19s => pure (x19 :: x19s)) >>= Bi.str) >>= fun x22 => pure (D.str ("." : Str)) >>= fun y23 => Op.add x22 y23) >>= fun x27 => (((pure a_parts >>= fun x25 => pure (D.int 1) >>= fun y26 => Op.idx x25 y26) >>= fun x24 => pure [] >>= fun x24s => pure (x24 :: x24s)) >>= Bi.str) >>= fun y28 => Op.add x27 y28) >>= fun x29 => pure (D.str ("." : Str)) >>= fun y30 => Op.add x29 y30) >>= fun x34 => (((pure a_parts >>= fun x32 => pure (D.int 2) >>= fun y33 => Op.idx x32 y33) >>= fun x31 => pure [] >>= fun x31s => pure (x31 :: x31s)) >>= Bi.str) >>= fun y35 => Op.add x34 y35) >>= fun v18 => (((pure a_parts >>= fun x50 => pure (D.int 3) >>= fun y51 => Op.idx x50 y51) >>= fun x52 => (pure [] >>= Op.mkT) >>= fun y53 => Op.eq x52 y53 >>= truthB) >>= fun t => if t then pure v18 else ((pure v18 >>= fun x54 => pure (D.str ("-" : Str)) >>= fun y55 => Op.add x54 y55) >>= fun x62 => (pure (D.str ("." : Str)) >>= fun d => Me.isStr d >>= fun _ => ((((pure a_parts >>= fun x57 => pure (D.int 3) >>= fun y58 => Op.idx x57 y58) >>= itemsOf) >>= comp fun x61 => (fun d => pure d) x61 >>= fun b59 => pure true >>= fun b => if b then ((pure b59 >>= fun x60 => pure [] >>= fun x60s => pure (x60 :: x60s)) >>= Bi.str) >>= fun y => pure (some y) else pure none) >>= fun x56 => pure [] >>= fun x56s => pure (x56 :: x56s)) >>= fun ds => Me.join d ds) >>= fun y63 => Op.add x62 y63)))
  | _ => M.bad
theorem b__law_text {P : Program} {w : World} {K : PySem.W.Frag} {mg : Str → Option Value} {base : Heap} (G : Fx K mg)  {f : Addr} {cdv : Value} {A : Around} {outer : List Env} {s : Shared} {H : Hp} {E : XK} (hr : Room 2 (A.deeper (envOfC "_law_text" (defScope s__law_text) s.heap.objs.size f cdv))) (a_parts : D) :
  JC (cxOf (L2.CX P w) P w K mg base ["parts", "head", "word"] "_law_text" (defScope s__law_text) f cdv A outer s H E) (fun c d _ H2 => E c d H2) (List.replicate 3 none) [some (.val a_parts), none, none] (defBody s__law_text) U0 (m__law_text [a_parts]) .fin := by
  have tk : Takes (cxOf (L2.CX P w) P w K mg base ["parts", "head", "word"] "_law_text" (defScope s__law_text) f cdv A outer s H E) (fun c d _ H2 => E c d H2) := takes_of rfl rfl rfl rfl
  exact (jc_set 1 (by first | exact weak_none rfl | exact Weak.rfl) sc__law_text.nd (je_op od_add nx_add (JE.b (je_op od_add nx_add (JE.b (je_op od_add nx_add (JE.b (je_op od_add nx_add (JE.b (je_callTy cd_str nx_str rfl G.f_str (by decide +kernel) (jab_cons (JE.b (je_ix (JE.b (je_name 0)) (JE.b je_int) (fun _ _ => rfl))) jab_nil))) (JE.b je_str))) (JE.b (je_callTy cd_str nx_str rfl G.f_str (by decide +kernel) (jab_cons (JE.b (je_ix (JE.b (je_name 0)) (JE.b je_int) (fun _ _ => rfl))) jab_nil))))) (JE.b je_str))) (JE.b (je_callTy cd_str nx_str rfl G.f_str (by decide +kernel) (jab_cons (JE.b (je_ix (JE.b (je_name 0)) (JE.b je_int) (fun _ _ => rfl))) jab_nil)))) (fun v18 => (jc_retF (by first | exact weak_none rfl | exact Weak.rfl) (je_if (jt_cmp (od_eq hr.units) nx_eq (JE.b (je_ix (JE.b (je_name 0)) (JE.b je_int) (fun _ _ => rfl))) (JE.b (je_tup ja_nil)) rfl) (je_name 1) (je_op od_add nx_add (JE.b (je_op od_add nx_add (JE.b (je_name 1)) (JE.b je_str))) (JE.b (je_strM PySem.F.slot_str_join PySem.F.type_str_join md_join nx_join (JE.b je_str) (jab_cons (JE.b (JF.je (jf_lc (own := [("word", 2)]) rfl sc__law_text.nd (jib_any (JE.b (je_ix (JE.b (je_name 0)) (JE.b je_int) (fun _ _ => rfl)))) (blk_of (by kernel_rfl)) (fun _ _ _ _ _ => (pg_name (i := 2) sc__law_text.nd rfl (by first | exact Or.inl rfl | exact Or.inr rfl))) (go_name _ 2) (by simp) (fun _ _ _ _ _ b59 => tY) (fun _ _ _ _ _ b59 => (je_callTy cd_str nx_str rfl G.f_str (by decide +kernel) (jab_cons (JE.b (je_name 2)) jab_nil)))))) jab_nil))))))))
theorem d__law_text {P : Program} {w : World} {K : PySem.W.Frag} {mg : Str → Option Value} {base : Heap} (G : Fx K mg)  {f : Addr} {fd : FuncData} (F : FunD K "_law_text" "_law_text" (defArgs s__law_text) (defBody s__law_text) (defScope s__law_text) [] [] f fd) (hx : mg "_law_text" = some (.ref f)) : DF P w K mg base 3 "_law_text" s__law_text ["parts"] m__law_text :=
  DF.of F hx sc__law_text (fun _ _ _ _ _ _ us h => match us, h with | [_], _ => rfl) (fun ds s h => match ds, h with | [], _ => rfl | [_], h => absurd rfl h | _ :: _ :: _, _ => rfl) fun cdv A outer s H E ds hl hr => match ds, hl with | [a_parts], _ => b__law_text G  hr a_parts
/-! _law_comes -/
abbrev s__law_comes : Stmt := top 54
theorem sc__law_comes : FnScope ["one", "other", "a", "b"] ["one", "other"] (defScope s__law_comes) := ⟨rfl, rfl, rfl, by decide +kernel, rfl, by decide +kernel, by decide +kernel⟩
def m__law_comes : List D → M D
  | [a_one, a_other] => (((((pure a_one >>= fun x4 => pure none >>= fun lx4 => (pure (D.int 3) >>= fun x3 => Op.asInt x3 >>= fun i => pure (some i)) >>= fun hx4 => Op.slc x4 lx4 hx4) >>= fun x2 => ((pure a_other >>= fun x7 => pure none >>= fun lx7 => (pure (D.int 3) >>= fun x6 => Op.asInt x6 >>= fun i => pure (some i)) >>= fun hx7 => Op.slc x7 lx7 hx7) >>= fun x5 => pure [] >>= fun x5s => pure (x5 :: x5s)) >>= fun x2s => pure (x2 :: x2s)) >>= zipD) >>= fun xs => forF (fun x15 (t1 : Unit) => un2 x15 >>= fun b8 => ((pure b8.1 >>= fun x9 => pure b8.2 >>= fun y10 => Op.ne x9 y10 >>= truthB) >>= fun b => if b then (((pure b8.1 >>= fun x13 => pure b8.2 >>= fun y14 => Op.ltG x13 y14 >>= truthB) >>= fun t => if t then (pure (D.int 1) >>= Op.neg) else pure (D.int 1)) >>= fun d => pure (Fl.rt d)) else pure (Fl.nx ()))) xs ()) >>= flK (fun (t1 : Unit) => ((((pure a_one >>= fun x16 => pure (D.int 3) >>= fun y17 => Op.idx x16 y17) >>= fun x18 => (pure [] >>= Op.mkT) >>= fun y19 => Op.eq x18 y19 >>= truthB) >>= fun c => if c then pure true else ((pure a_other >>= fun x20 => pure (D.int 3) >>= fun y21 => Op.idx x20 y21) >>= fun x22 => (pure [] >>= Op.mkT) >>= fun y23 => Op.eq x22 y23 >>= truthB)) >>= fun b => if b then (((((pure a_one >>= fun x37 => pure (D.int 3) >>= fun y38 => Op.idx x37 y38) >>= fun x39 => (pure [] >>= Op.mkT) >>= fun y40 => Op.eq x39 y40) >>= fun x36 => pure [] >>= fun x36s => pure (x36 :: x36s)) >>= Bi.int) >>= fun x46 => ((((pure a_other >>= fun x42 => pure (D.int 3) >>= fun y43 => Op.idx x42 y43) >>= fun x44 => (pure [] >>= Op.mkT) >>= fun y45 => Op.eq x44 y45) >>= fun x41 => pure [] >>= fun x41s => pure (x41 :: x41s)) >>= Bi.int) >>= fun y47 => Op.sub x46 y47) else (((((pure a_one >>= fun x50 => pure (D.int 3) >>= fun y51 => Op.idx x50 y51) >>= fun x49 => ((pure a_other >>= fun x53 => pure (D.int 3) >>= fun y54 => Op.idx x53 y54) >>= fun x52 => pure [] >>= fun x52s => pure (x52 :: x52s)) >>= fun x49s => pure (x49 :: x49s)) >>= zipD) >>= fun xs => forF (fun x64 (t48 : Unit) => un2 x64 >>= fun b55 => (((pure b55.1 >>= Bi.isi "int") >>= fun x56 => (pure b55.2 >>= Bi.isi "int") >>= fun y57 => Op.ne x56 y57 >>= truthB) >>= fun b => if b then ((((pure b55.1 >>= Bi.isi "int") >>= truthB) >>= fun t => if t then (pure (D.int 1) >>= Op.neg) else pure (D.int 1)) >>= fun d => pure (Fl.rt d)) else ((pure b55.1 >>= fun x58 => pure b55.2 >>= fun y59 => Op.ne x58 y59 >>= truthB) >>= fun b => if b then (((pure b55.1 >>= fun x62 => pure b55.2 >>= fun y63 => Op.ltG x62 y63 >>= truthB) >>= fun t => if t then (pure (D.int 1) >>= Op.neg) else pure (D.int 1)) >>= fun d => pure (Fl.rt d)) else pure (Fl.nx ())))) xs ()) >>= flK (fun (t48 : Unit) => (((((((pure a_one >>= fun x87 => pure (D.int 3) >>= fun y88 => Op.idx x87 y88) >>= fun x86 => pure [] >>= fun x86s => pure (x86 :: x86s)) >>= Bi.len) >>= fun x92 => (((pure a_other >>= fun x90 => pure (D.int 3) >>= fun y91 => Op.idx x90 y91) >>= fun x89 => pure [] >>= fun x89s => pure (x89 :: x89s)) >>= Bi.len) >>= fun y93 => Op.gtG x92 y93) >>= fun x85 => pure [] >>= fun x85s => pure (x85 :: x85s)) >>= Bi.int) >>= fun x103 => ((((((pure a_one >>= fun x96 => pure (D.int 3) >>= fun y97 => Op.idx x96 y97) >>= fun x95 => pure [] >>= fun x95s => pure (x95 :: x95s)) >>= Bi.len) >>= fun x101 => (((pure a_other >>= fun x99 => pure (D.int 3) >>= fun y100 => Op.idx x99 y100) >>= fun x98 => pure [] >>= fun x98s => pure (x98 :: x98s)) >>= Bi.len) >>= fun y102 => Op.ltG x101 y102) >>= fun x94 => pure [] >>= fun x94s => pure (x94 :: x94s)) >>= Bi.int) >>= fun y104 => Op.sub x103 y104)) (fun d => d)))) (fun d => d))
  | _ => M.bad
theorem b__law_comes {P : Program} {w : World} {K : PySem.W.Frag} {mg : Str → Option Value} {base : Heap} (G : Fx K mg)  {f : Addr} {cdv : Value} {A : Around} {outer : List Env} {s : Shared} {H : Hp} {E : XK} (hr : Room 2 (A.deeper (envOfC "_law_comes" (defScope s__law_comes) s.heap.objs.size f cdv))) (a_one a_other : D) :
  JC (cxOf (L2.CX P w) P w K mg base ["one", "other", "a", "b"] "_law_comes" (defScope s__law_comes) f cdv A outer s H E) (fun c d _ H2 => E c d H2) (List.replicate 4 none) [some (.val a_one), some (.val a_other), none, none] (defBody s__law_comes) U0 (m__law_comes [a_one, a_other]) .fin := by
  have tk : Takes (cxOf (L2.CX P w) P w K mg base ["one", "other", "a", "b"] "_law_comes" (defScope s__law_comes) f cdv A outer s H E) (fun c d _ H2 => E c d H2) := takes_of rfl rfl rfl rfl
  exact (jc_fl2 (r := (fun d => d)) (j1_forF (eN := (fun (t1 : Unit) => ([some (.val a_one), some (.val a_other), none, none] : EnvD))) (t0 := ()) (passes_of rfl) rfl (by first | exact weak_none rfl | exact Weak.rfl) (ji_zip rfl G.f_zip (ja_cons (je_slice (JE.b (je_name 0)) jo_none (jo_some je_int)) (ja_cons (je_slice (JE.b (je_name 1)) jo_none (jo_some je_int)) ja_nil))) (pg_tup rfl (pgs_cons (pg_name (i := 2) sc__law_comes.nd rfl (by first | exact Or.inl rfl | exact Or.inr rfl)) (pgs_cons (pg_name (i := 3) sc__law_comes.nd rfl (by first | exact Or.inl rfl | exact Or.inr rfl)) pgs_nil))) (go_tup2 _ 2 3) (by repeat (first | exact Weak.nil | refine Weak.same ?_ | refine Weak.none ?_)) (fun t1 b8 => (jc_if (by first | exact weak_none rfl | exact Weak.rfl) (jt_cmp (od_ne hr.units) nx_ne (JE.b (je_name 2)) (JE.b (je_name 3)) rfl) (jc_ret (r := Fl.rt) (by first | exact weak_none rfl | exact Weak.rfl) (je_if (jt_cmp (od_ltG hr.units) nx_ltG (JE.b (je_name 2)) (JE.b (je_name 3)) rfl) (je_neg (JE.b je_int)) je_int) (fun _ => .inl rfl)) (jc_end (jc_nil (by repeat (first | exact Weak.nil | refine Weak.same ?_ | refine Weak.none ?_)) (.inr rfl)))))) (fun t1 => (jc_if (by first | exact weak_none rfl | exact Weak.rfl) (jt_w (jw_or (jt_cmp (od_eq hr.units) nx_eq (JE.b (je_ix (JE.b (je_name 0)) (JE.b je_int) (fun _ _ => rfl))) (JE.b (je_tup ja_nil)) rfl) (jw_or1 (jt_cmp (od_eq hr.units) nx_eq (JE.b (je_ix (JE.b (je_name 1)) (JE.b je_int) (fun _ _ => rfl))) (JE.b (je_tup ja_nil)) rfl)))) (jc_retF (by first | exact weak_none rfl | exact Weak.rfl) (je_op od_sub nx_sub (JE.b (je_callTy cd_int nx_int rfl G.f_int (by decide +kernel) (jab_cons (JE.b (je_cmp (od_eq hr.units) nx_eq (JE.b (je_ix (JE.b (je_name 0)) (JE.b je_int) (fun _ _ => rfl))) (JE.b (je_tup ja_nil)) rfl)) jab_nil))) (JE.b (je_callTy cd_int nx_int rfl G.f_int (by decide +kernel) (jab_cons (JE.b (je_cmp (od_eq hr.units) nx_eq (JE.b (je_ix (JE.b (je_name 1)) (JE.b je_int) (fun _ _ => rfl))) (JE.b (je_tup ja_nil)) rfl)) jab_nil))))) (jc_end (jc_fl2 (r := (fun d => d)) (j1_forF (eN := (fun (t48 : Unit) => ([some (.val a_one), some (.val a_other), none, none] : EnvD))) (t0 := ()) (passes_of rfl) rfl (by first | exact weak_none rfl | exact Weak.rfl) (ji_zip rfl G.f_zip (ja_cons (je_ix (JE.b (je_name 0)) (JE.b je_int) (fun _ _ => rfl)) (ja_cons (je_ix (JE.b (je_name 1)) (JE.b je_int) (fun _ _ => rfl)) ja_nil))) (pg_tup rfl (pgs_cons (pg_name (i := 2) sc__law_comes.nd rfl (by first | exact Or.inl rfl | exact Or.inr rfl)) (pgs_cons (pg_name (i := 3) sc__law_comes.nd rfl (by first | exact Or.inl rfl | exact Or.inr rfl)) pgs_nil))) (go_tup2 _ 2 3) (by repeat (first | exact Weak.nil | refine Weak.same ?_ | refine Weak.none ?_)) (fun t48 b55 => (jc_if (by first | exact weak_none rfl | exact Weak.rfl) (jt_cmp (od_ne hr.units) nx_ne (JE.b (je_isi (T := "int") (by decide) rfl G.f_isinstance rfl G.f_int (by decide +kernel) (JE.b (je_name 2)))) (JE.b (je_isi (T := "int") (by decide) rfl G.f_isinstance rfl G.f_int (by decide +kernel) (JE.b (je_name 3)))) rfl) (jc_ret (r := Fl.rt) (by first | exact weak_none rfl | exact Weak.rfl) (je_if (jt_bool (je_isi (T := "int") (by decide) rfl G.f_isinstance rfl G.f_int (by decide +kernel) (JE.b (je_name 2)))) (je_neg (JE.b je_int)) je_int) (fun _ => .inl rfl)) (jc_end (jc_if (by first | exact weak_none rfl | exact Weak.rfl) (jt_cmp (od_ne hr.units) nx_ne (JE.b (je_name 2)) (JE.b (je_name 3)) rfl) (jc_ret (r := Fl.rt) (by first | exact weak_none rfl | exact Weak.rfl) (je_if (jt_cmp (od_ltG hr.units) nx_ltG (JE.b (je_name 2)) (JE.b (je_name 3)) rfl) (je_neg (JE.b je_int)) je_int) (fun _ => .inl rfl)) (jc_end (jc_nil (by repeat (first | exact Weak.nil | refine Weak.same ?_ | refine Weak.none ?_)) (.inr rfl)))))))) (fun t48 => (jc_retF (by first | exact weak_none rfl | exact Weak.rfl) (je_op od_sub nx_sub (JE.b (je_callTy cd_int nx_int rfl G.f_int (by decide +kernel) (jab_cons (JE.b (je_cmp (od_gtG hr.units) nx_gtG (JE.b (je_callB cd_len nx_len rfl G.f_len (by decide +kernel) (jab_cons (JE.b (je_ix (JE.b (je_name 0)) (JE.b je_int) (fun _ _ => rfl))) jab_nil))) (JE.b (je_callB cd_len nx_len rfl G.f_len (by decide +kernel) (jab_cons (JE.b (je_ix (JE.b (je_name 1)) (JE.b je_int) (fun _ _ => rfl))) jab_nil))) rfl)) jab_nil))) (JE.b (je_callTy cd_int nx_int rfl G.f_int (by decide +kernel) (jab_cons (JE.b (je_cmp (od_ltG hr.units) nx_ltG (JE.b (je_callB cd_len nx_len rfl G.f_len (by decide +kernel) (jab_cons (JE.b (je_ix (JE.b (je_name 0)) (JE.b je_int) (fun _ _ => rfl))) jab_nil))) (JE.b (je_callB cd_len nx_len rfl G.f_len (by decide +kernel) (jab_cons (JE.b (je_ix (JE.b (je_name 1)) (JE.b je_int) (fun _ _ => rfl))) jab_nil))) rfl)) jab_nil)))))) (fun _ => .inr rfl))))) (fun _ => .inr rfl))
theorem d__law_comes {P : Program} {w : World} {K : PySem.W.Frag} {mg : Str → Option Value} {base : Heap} (G : Fx K mg)  {f : Addr} {fd : FuncData} (F : FunD K "_law_comes" "_law_comes" (defArgs s__law_comes) (defBody s__law_comes) (defScope s__law_comes) [] [] f fd) (hx : mg "_law_comes" = some (.ref f)) : DF P w K mg base 3 "_law_comes" s__law_comes ["one", "other"] m__law_comes :=
  DF.of F hx sc__law_comes (fun _ _ _ _ _ _ us h => match us, h with | [_, _], _ => rfl) (fun ds s h => match ds, h with | [], _ => rfl | [_], _ => rfl | [_, _], h => absurd rfl h | _ :: _ :: _ :: _, _ => rfl) fun cdv A outer s H E ds hl hr => match ds, hl with | [a_one, a_other], _ => b__law_comes G  hr a_one a_other
/-! _law_whole -/
abbrev s__law_whole : Stmt := top 56
theorem sc__law_whole : FnScope ["numbers"] ["numbers"] (defScope s__law_whole) := ⟨rfl, rfl, rfl, by decide +kernel, rfl, by decide +kernel, by decide +kernel⟩
def m__law_whole : List D → M D
  | [a_numbers] => (((((pure a_numbers >>= fun x15 => pure (D.int 0) >>= fun y16 => Op.idx x15 y16) >>= fun x17 => pure (D.int 10000) >>= fun y18 => Op.mul x17 y18) >>= fun x21 => (pure a_numbers >>= fun x19 => pure (D.int 1) >>= fun y20 => Op.idx x19 y20) >>= fun y22 => Op.add x21 y22) >>= fun x23 => pure (D.int 10000) >>= fun y24 => Op.mul x23 y24) >>= fun x27 => (pure a_numbers >>= fun x25 => pure (D.int 2) >>= fun y26 => Op.idx x25 y26) >>= fun y28 => Op.add x27 y28)
  | _ => M.bad
theorem b__law_whole {P : Program} {w : World} {K : PySem.W.Frag} {mg : Str → Option Value} {base : Heap} (G : Fx K mg)  {f : Addr} {cdv : Value} {A : Around} {outer : List Env} {s : Shared} {H : Hp} {E : XK} (hr : Room 2 (A.deeper (envOfC "_law_whole" (defScope s__law_whole) s.heap.objs.size f cdv))) (a_numbers : D) :
  JC (cxOf (L2.CX P w) P w K mg base ["numbers"] "_law_whole" (defScope s__law_whole) f cdv A outer s H E) (fun c d _ H2 => E c d H2) (List.replicate 1 none) [some (.val a_numbers)] (defBody s__law_whole) U0 (m__law_whole [a_numbers]) .fin := by
  have tk : Takes (cxOf (L2.CX P w) P w K mg base ["numbers"] "_law_whole" (defScope s__law_whole) f cdv A outer s H E) (fun c d _ H2 => E c d H2) := takes_of rfl rfl rfl rfl
  exact (jc_retF (by first | exact weak_none rfl | exact Weak.rfl) (je_op od_add nx_add (JE.b (je_op od_mul nx_mul (JE.b (je_op od_add nx_add (JE.b (je_op od_mul nx_mul (JE.b (je_ix (JE.b (je_name 0)) (JE.b je_int) (fun _ _ => rfl))) (JE.b je_int))) (JE.b (je_ix (JE.b (je_name 0)) (JE.b je_int) (fun _ _ => rfl))))) (JE.b je_int))) (JE.b (je_ix (JE.b (je_name 0)) (JE.b je_int) (fun _ _ => rfl)))))
theorem d__law_whole {P : Program} {w : World} {K : PySem.W.Frag} {mg : Str → Option Value} {base : Heap} (G : Fx K mg)  {f : Addr} {fd : FuncData} (F : FunD K "_law_whole" "_law_whole" (defArgs s__law_whole) (defBody s__law_whole) (defScope s__law_whole) [] [] f fd) (hx : mg "_law_whole" = some (.ref f)) : DF P w K mg base 3 "_law_whole" s__law_whole ["numbers"] m__law_whole :=
  DF.of F hx sc__law_whole (fun _ _ _ _ _ _ us h => match us, h with | [_], _ => rfl) (fun ds s h => match ds, h with | [], _ => rfl | [_], h => absurd rfl h | _ :: _ :: _, _ => rfl) fun cdv A outer s H E ds hl hr => match ds, hl with | [a_numbers], _ => b__law_whole G  hr a_numbers
/-! _law_three -/
abbrev s__law_three : Stmt := top 57
theorem sc__law_three : FnScope ["number"] ["number"] (defScope s__law_three) := ⟨rfl, rfl, rfl, by decide +kernel, rfl, by decide +kernel, by decide +kernel⟩
def m__law_three : List D → M D
  | [a_number] => (((pure a_number >>= fun x21 => pure (D.int 100000000) >>= fun y22 => Op.fdiv x21 y22) >>= fun x20 => (((pure a_number >>= fun x24 => pure (D.int 10000) >>= fun y25 => Op.fdiv x24 y25) >>= fun x30 => ((pure a_number >>= fun x26 => pure (D.int 100000000) >>= fun y27 => Op.fdiv x26 y27) >>= fun x28 => pure (D.int 10000) >>= fun y29 => Op.mul x28 y29) >>= fun y31 => Op.sub x30 y31) >>= fun x23 => ((pure a_number >>= fun x37 => ((pure a_number >>= fun x33 => pure (D.int 10000) >>= fun y34 => Op.fdiv x33 y34) >>= fun x35 => pure (D.int 10000) >>= fun y36 => Op.mul x35 y36) >>= fun y38 => Op.sub x37 y38) >>= fun x32 => pure [] >>= fun x32s => pure (x32 :: x32s)) >>= fun x23s => pure (x23 :: x23s)) >>= fun x20s => pure (x20 :: x20s)) >>= Op.mkT)
  | _ => M.bad
theorem b__law_three {P : Program} {w : World} {K : PySem.W.Frag} {mg : Str → Option Value} {base : Heap} (G : Fx K mg)  {f : Addr} {cdv : Value} {A : Around} {outer : List Env} {s : Shared} {H : Hp} {E : XK} (hr : Room 2 (A.deeper (envOfC "_law_three" (defScope s__law_three) s.heap.objs.size f cdv))) (a_number : D) :
  JC (cxOf (L2.CX P w) P w K mg base ["number"] "_law_three" (defScope s__law_three) f cdv A outer s H E) (fun c d _ H2 => E c d H2) (List.replicate 1 none) [some (.val a_number)] (defBody s__law_three) U0 (m__law_three [a_number]) .fin := by
  have tk : Takes (cxOf (L2.CX P w) P w K mg base ["number"] "_law_three" (defScope s__law_three) f cdv A outer s H E) (fun c d _ H2 => E c d H2) := takes_of rfl rfl rfl rfl
  exact (jc_retF (by first | exact weak_none rfl | exact Weak.rfl) (je_tup (ja_cons (je_op od_fdiv nx_fdiv (JE.b (je_name 0)) (JE.b je_int)) (ja_cons (je_op od_sub nx_sub (JE.b (je_op od_fdiv nx_fdiv (JE.b (je_name 0)) (JE.b je_int))) (JE.b (je_op od_mul nx_mul (JE.b (je_op od_fdiv nx_fdiv (JE.b (je_name 0)) (JE.b je_int))) (JE.b je_int)))) (ja_cons (je_op od_sub nx_sub (JE.b (je_name 0)) (JE.b (je_op od_mul nx_mul (JE.b (je_op od_fdiv nx_fdiv (JE.b (je_name 0)) (JE.b je_int))) (JE.b je_int)))) ja_nil)))))
theorem d__law_three {P : Program} {w : World} {K : PySem.W.Frag} {mg : Str → Option Value} {base : Heap} (G : Fx K mg)  {f : Addr} {fd : FuncData} (F : FunD K "_law_three" "_law_three" (defArgs s__law_three) (defBody s__law_three) (defScope s__law_three) [] [] f fd) (hx : mg "_law_three" = some (.ref f)) : DF P w K mg base 3 "_law_three" s__law_three ["number"] m__law_three :=
  DF.of F hx sc__law_three (fun _ _ _ _ _ _ us h => match us, h with | [_], _ => rfl) (fun ds s h => match ds, h with | [], _ => rfl | [_], h => absurd rfl h | _ :: _ :: _, _ => rfl) fun cdv A outer s H E ds hl hr => match ds, hl with | [a_number], _ => b__law_three G  hr a_number
/-! _law_in -/
abbrev s__law_in : Stmt := top 60
theorem sc__law_in : FnScope ["rows", "number", "low", "high"] ["rows", "number"] (defScope s__law_in) := ⟨rfl, rfl, rfl, by decide +kernel, rfl, by decide +kernel, by decide +kernel⟩
def m__law_in : List D → M D
  | [a_rows, a_number] => (((pure a_rows >>= itemsOf) >>= comp fun x12 => un2 x12 >>= fun b8 => (pure b8.1 >>= fun x9 => pure a_number >>= fun y10 => Op.leG x9 y10 >>= fun r => truthB r >>= fun t => if t then pure b8.2 >>= fun z11 => Op.ltG y10 z11 >>= truthB else pure false) >>= fun b => if b then pure (D.int 1) >>= fun y => pure (some y) else pure none) >>= fun x13 => (pure [] >>= Op.mkL) >>= fun y14 => Op.ne x13 y14)
  | _ => M.bad
theorem b__law_in {P : Program} {w : World} {K : PySem.W.Frag} {mg : Str → Option Value} {base : Heap} (G : Fx K mg)  {f : Addr} {cdv : Value} {A : Around} {outer : List Env} {s : Shared} {H : Hp} {E : XK} (hr : Room 2 (A.deeper (envOfC "_law_in" (defScope s__law_in) s.heap.objs.size f cdv))) (a_rows a_number : D) :
  JC (cxOf (L2.CX P w) P w K mg base ["rows", "number", "low", "high"] "_law_in" (defScope s__law_in) f cdv A outer s H E) (fun c d _ H2 => E c d H2) (List.replicate 4 none) [some (.val a_rows), some (.val a_number), none, none] (defBody s__law_in) U0 (m__law_in [a_rows, a_number]) .fin := by
  have tk : Takes (cxOf (L2.CX P w) P w K mg base ["rows", "number", "low", "high"] "_law_in" (defScope s__law_in) f cdv A outer s H E) (fun c d _ H2 => E c d H2) := takes_of rfl rfl rfl rfl
  exact (jc_retF (by first | exact weak_none rfl | exact Weak.rfl) (je_cmp (od_ne hr.units) nx_ne (JE.b (JF.je (jf_lc (own := [("low", 2), ("high", 3)]) rfl sc__law_in.nd (jib_any (JE.b (je_name 0))) (blk_of (by kernel_rfl)) (fun _ _ _ _ _ => (pg_tup rfl (pgs_cons (pg_name (i := 2) sc__law_in.nd rfl (by first | exact Or.inl rfl | exact Or.inr rfl)) (pgs_cons (pg_name (i := 3) sc__law_in.nd rfl (by first | exact Or.inl rfl | exact Or.inr rfl)) pgs_nil)))) (go_tup2 _ 2 3) (by simp) (fun _ _ _ _ _ b8 => (t1 (jt_chain (od_leG hr.units) (od_ltG hr.units) nx_leG nx_ltG (JE.b (je_name 2)) (JE.b (je_name 1)) (JE.b (je_name 3))))) (fun _ _ _ _ _ b8 => je_int)))) (JE.b (je_lst ja_nil)) rfl))
theorem d__law_in {P : Program} {w : World} {K : PySem.W.Frag} {mg : Str → Option Value} {base : Heap} (G : Fx K mg)  {f : Addr} {fd : FuncData} (F : FunD K "_law_in" "_law_in" (defArgs s__law_in) (defBody s__law_in) (defScope s__law_in) [] [] f fd) (hx : mg "_law_in" = some (.ref f)) : DF P w K mg base 3 "_law_in" s__law_in ["rows", "number"] m__law_in :=
  DF.of F hx sc__law_in (fun _ _ _ _ _ _ us h => match us, h with | [_, _], _ => rfl) (fun ds s h => match ds, h with | [], _ => rfl | [_], _ => rfl | [_, _], h => absurd rfl h | _ :: _ :: _ :: _, _ => rfl) fun cdv A outer s H E ds hl hr => match ds, hl with | [a_rows, a_number], _ => b__law_in G  hr a_rows a_number
/-! _law_edges -/
abbrev s__law_edges : Stmt := top 63
theorem sc__law_edges : FnScope ["box", "rows", "found", "low", "high", "x"] ["box", "rows"] (defScope s__law_edges) := ⟨rfl, rfl, rfl, by decide +kernel, rfl, by decide +kernel, by decide +kernel⟩
def m__law_edges : List D → M D
  | [a_box, a_rows] => (((pure (D.int 0) >>= fun x1 => (((pure (D.int 10) >>= fun x3 => pure (D.int 12) >>= fun y4 => Op.pow x3 y4) >>= fun x5 => pure (D.int 1) >>= fun y6 => Op.sub x5 y6) >>= fun x2 => pure [] >>= fun x2s => pure (x2 :: x2s)) >>= fun x1s => pure (x1 :: x1s)) >>= Op.mkL) >>= lstK fun w7 => (((pure a_rows >>= itemsOf) >>= fun xs => forN (fun x32 (t8 : List D) => un2 x32 >>= fun b9 => ((((((pure b9.1 >>= fun x11 => pure (D.int 1) >>= fun y12 => Op.sub x11 y12) >>= fun x10 => (pure b9.1 >>= fun x13 => ((pure b9.1 >>= fun x15 => pure (D.int 1) >>= fun y16 => Op.add x15 y16) >>= fun x14 => ((pure b9.2 >>= fun x18 => pure (D.int 1) >>= fun y19 => Op.sub x18 y19) >>= fun x17 => (pure b9.2 >>= fun x20 => ((pure b9.2 >>= fun x22 => pure (D.int 1) >>= fun y23 => Op.add x22 y23) >>= fun x21 => pure [] >>= fun x21s => pure (x21 :: x21s)) >>= fun x20s => pure (x20 :: x20s)) >>= fun x17s => pure (x17 :: x17s)) >>= fun x14s => pure (x14 :: x14s)) >>= fun x13s => pure (x13 :: x13s)) >>= fun x10s => pure (x10 :: x10s)) >>= Op.mkL) >>= itemsOf) >>= comp fun x30 => (fun d => pure d) x30 >>= fun b24 => (pure (D.int 0) >>= fun x27 => pure b24 >>= fun y28 => Op.leG x27 y28 >>= fun r => truthB r >>= fun t => if t then (pure (D.int 10) >>= fun x25 => pure (D.int 12) >>= fun y26 => Op.pow x25 y26) >>= fun z29 => Op.ltG y28 z29 >>= truthB else pure false) >>= fun b => if b then pure b24 >>= fun y => pure (some y) else pure none) >>= lstK fun w31 => if Op.lenOk (List.length t8 + List.length w31) then pure (t8 ++ w31) else M.bad)) xs w7) >>= fun (t8 : List D) => pure (D.lst t8)))
  | _ => M.bad
theorem b__law_edges {P : Program} {w : World} {K : PySem.W.Frag} {mg : Str → Option Value} {base : Heap} (G : Fx K mg)  {f : Addr} {cdv : Value} {A : Around} {outer : List Env} {s : Shared} {H : Hp} {E : XK} (hr : Room 2 (A.deeper (envOfC "_law_edges" (defScope s__law_edges) s.heap.objs.size f cdv))) (a_box a_rows : D) :
  JC (cxOf (L2.CX P w) P w K mg base ["box", "rows", "found", "low", "high", "x"] "_law_edges" (defScope s__law_edges) f cdv A outer s H E) (fun c d _ H2 => E c d H2) (List.replicate 6 none) [some (.val a_box), some (.val a_rows), none, none, none, none] (defBody s__law_edges) U0 (m__law_edges [a_box, a_rows]) .fin := by
  have tk : Takes (cxOf (L2.CX P w) P w K mg base ["box", "rows", "found", "low", "high", "x"] "_law_edges" (defScope s__law_edges) f cdv A outer s H E) (fun c d _ H2 => E c d H2) := takes_of rfl rfl rfl rfl
  exact (jc_setOwn 2 (by first | exact weak_none rfl | exact Weak.rfl) sc__law_edges.nd (jf_lst (ja_cons je_int (ja_cons (je_op od_sub nx_sub (JE.b (je_op od_pow nx_pow (JE.b je_int) (JE.b je_int))) (JE.b je_int)) ja_nil))) (jc_lstK (f := fun d => _) fun w7 => (jc_nx (j1_forN (eN := (fun (t8 : List D) => ([some (.val a_box), some (.val a_rows), some (.own (.lst t8)), none, none, none] : EnvD))) (t0 := w7) (passes_of rfl) rfl (by first | exact weak_none rfl | exact Weak.rfl) (ji_any (je_name 1)) (pg_tup rfl (pgs_cons (pg_name (i := 3) sc__law_edges.nd rfl (by first | exact Or.inl rfl | exact Or.inr rfl)) (pgs_cons (pg_name (i := 4) sc__law_edges.nd rfl (by first | exact Or.inl rfl | exact Or.inr rfl)) pgs_nil))) (go_tup2 _ 3 4) (by repeat (first | exact Weak.nil | refine Weak.same ?_ | refine Weak.none ?_)) (fun t8 b9 => (jc_extend 2 (by first | exact weak_none rfl | exact Weak.rfl) (jf_lc (own := [("x", 5)]) rfl sc__law_edges.nd (jib_any (JE.b (je_lst (ja_cons (je_op od_sub nx_sub (JE.b (je_name 3)) (JE.b je_int)) (ja_cons (je_name 3) (ja_cons (je_op od_add nx_add (JE.b (je_name 3)) (JE.b je_int)) (ja_cons (je_op od_sub nx_sub (JE.b (je_name 4)) (JE.b je_int)) (ja_cons (je_name 4) (ja_cons (je_op od_add nx_add (JE.b (je_name 4)) (JE.b je_int)) ja_nil))))))))) (blk_of (by kernel_rfl)) (fun _ _ _ _ _ => (pg_name (i := 5) sc__law_edges.nd rfl (by first | exact Or.inl rfl | exact Or.inr rfl))) (go_name _ 5) (by simp) (fun _ _ _ _ _ b24 => (t1 (jt_chain (od_leG hr.units) (od_ltG hr.units) nx_leG nx_ltG (JE.b je_int) (JE.b (je_name 5)) (JE.b (je_op od_pow nx_pow (JE.b je_int) (JE.b je_int)))))) (fun _ _ _ _ _ b24 => (je_name 5))) (fun w31 => (jc_nil (by repeat (first | exact Weak.nil | refine Weak.same ?_ | refine Weak.none ?_)) (.inr rfl)))))) (fun t8 => (jc_freeze 2 rfl (jc_retF (by first | exact weak_none rfl | exact Weak.rfl) (je_name 2)))))))
theorem d__law_edges {P : Program} {w : World} {K : PySem.W.Frag} {mg : Str → Option Value} {base : Heap} (G : Fx K mg)  {f : Addr} {fd : FuncData} (F : FunD K "_law_edges" "_law_edges" (defArgs s__law_edges) (defBody s__law_edges) (defScope s__law_edges) [] [] f fd) (hx : mg "_law_edges" = some (.ref f)) : DF P w K mg base 3 "_law_edges" s__law_edges ["box", "rows"] m__law_edges :=
  DF.of F hx sc__law_edges (fun _ _ _ _ _ _ us h => match us, h with | [_, _], _ => rfl) (fun ds s h => match ds, h with | [], _ => rfl | [_], _ => rfl | [_, _], h => absurd rfl h | _ :: _ :: _ :: _, _ => rfl) fun cdv A outer s H E ds hl hr => match ds, hl with | [a_box, a_rows], _ => b__law_edges G  hr a_box a_rows
/-! is_number -/
abbrev s_is_number : Stmt := top 16
theorem sc_is_number : FnScope ["text", "most"] ["text", "most"] (defScope s_is_number) := ⟨rfl, rfl, rfl, by decide +kernel, rfl, by decide +kernel, by decide +kernel⟩
def m_is_number : List D → M D
  | [a_text, a_most] => (((pure a_text >>= fun x11 => pure [] >>= fun x11s => pure (x11 :: x11s)) >>= m_are_digits) >>= fun d => truthB d >>= fun c => if c then ((((pure a_text >>= fun x12 => pure [] >>= fun x12s => pure (x12 :: x12s)) >>= Bi.len) >>= fun x13 => pure a_most >>= fun y14 => Op.leG x13 y14) >>= fun d => truthB d >>= fun c => if c then ((pure a_text >>= fun x15 => pure (D.str ("0" : Str)) >>= fun y16 => Op.eq x15 y16) >>= fun d => truthB d >>= fun c => if c then pure (D.bl true) else ((pure a_text >>= fun x17 => pure (D.int 0) >>= fun y18 => Op.idx x17 y18) >>= fun x19 => pure (D.str ("0" : Str)) >>= fun y20 => Op.ne x19 y20)) else pure (D.bl false)) else pure (D.bl false))
  | _ => M.bad
theorem b_is_number {P : Program} {w : World} {K : PySem.W.Frag} {mg : Str → Option Value} {base : Heap} (G : Fx K mg) (D_are_digits : DF P w K mg base 3 "are_digits" s_are_digits ["text"] m_are_digits) {f : Addr} {cdv : Value} {A : Around} {outer : List Env} {s : Shared} {H : Hp} {E : XK} (hr : Room 3 (A.deeper (envOfC "is_number" (defScope s_is_number) s.heap.objs.size f cdv))) (a_text a_most : D) :
  JC (cxOf (L2.CX P w) P w K mg base ["text", "most"] "is_number" (defScope s_is_number) f cdv A outer s H E) (fun c d _ H2 => E c d H2) (List.replicate 2 none) [some (.val a_text), some (.val a_most)] (defBody s_is_number) U0 (m_is_number [a_text, a_most]) .fin := by
  have tk : Takes (cxOf (L2.CX P w) P w K mg base ["text", "most"] "is_number" (defScope s_is_number) f cdv A outer s H E) (fun c d _ H2 => E c d H2) := takes_of rfl rfl rfl rfl
  exact (jc_retF (by first | exact weak_none rfl | exact Weak.rfl) (je_and (je_call D_are_digits (hr.mono (by omega)) tk rfl (ja_cons (je_name 0) ja_nil)) (je_and (je_cmp (od_leG hr.units) nx_leG (JE.b (je_callB cd_len nx_len rfl G.f_len (by decide +kernel) (jab_cons (JE.b (je_name 0)) jab_nil))) (JE.b (je_name 1)) rfl) (je_one (je_or (je_cmp (od_eq hr.units) nx_eq (JE.b (je_name 0)) (JE.b je_str) rfl) (je_one (je_cmp (od_ne hr.units) nx_ne (JE.b (je_ix (JE.b (je_name 0)) (JE.b je_int) (fun _ _ => rfl))) (JE.b je_str) rfl)))))))
theorem d_is_number {P : Program} {w : World} {K : PySem.W.Frag} {mg : Str → Option Value} {base : Heap} (G : Fx K mg) (D_are_digits : DF P w K mg base 3 "are_digits" s_are_digits ["text"] m_are_digits) {f : Addr} {fd : FuncData} (F : FunD K "is_number" "is_number" (defArgs s_is_number) (defBody s_is_number) (defScope s_is_number) [] [] f fd) (hx : mg "is_number" = some (.ref f)) : DF P w K mg base 4 "is_number" s_is_number ["text", "most"] m_is_number :=
  DF.of F hx sc_is_number (fun _ _ _ _ _ _ us h => match us, h with | [_, _], _ => rfl) (fun ds s h => match ds, h with | [], _ => rfl | [_], _ => rfl | [_, _], h => absurd rfl h | _ :: _ :: _ :: _, _ => rfl) fun cdv A outer s H E ds hl hr => match ds, hl with | [a_text, a_most], _ => b_is_number G D_are_digits hr a_text a_most
/-! word_of -/
abbrev s_word_of : Stmt := top 18
theorem sc_word_of : FnScope ["text"] ["text"] (defScope s_word_of) := ⟨rfl, rfl, rfl, by decide +kernel, rfl, by decide +kernel, by decide +kernel⟩
def m_word_of : List D → M D
  | [a_text] => ((((pure a_text >>= fun x3 => pure [] >>= fun x3s => pure (x3 :: x3s)) >>= m_are_digits) >>= truthB) >>= fun t => if t then ((pure a_text >>= fun x4 => pure [] >>= fun x4s => pure (x4 :: x4s)) >>= Bi.int) else pure a_text)
  | _ => M.bad
theorem b_word_of {P : Program} {w : World} {K : PySem.W.Frag} {mg : Str → Option Value} {base : Heap} (G : Fx K mg) (D_are_digits : DF P w K mg base 3 "are_digits" s_are_digits ["text"] m_are_digits) {f : Addr} {cdv : Value} {A : Around} {outer : List Env} {s : Shared} {H : Hp} {E : XK} (hr : Room 3 (A.deeper (envOfC "word_of" (defScope s_word_of) s.heap.objs.size f cdv))) (a_text : D) :
  JC (cxOf (L2.CX P w) P w K mg base ["text"] "word_of" (defScope s_word_of) f cdv A outer s H E) (fun c d _ H2 => E c d H2) (List.replicate 1 none) [some (.val a_text)] (defBody s_word_of) U0 (m_word_of [a_text]) .fin := by
  have tk : Takes (cxOf (L2.CX P w) P w K mg base ["text"] "word_of" (defScope s_word_of) f cdv A outer s H E) (fun c d _ H2 => E c d H2) := takes_of rfl rfl rfl rfl
  exact (jc_retF (by first | exact weak_none rfl | exact Weak.rfl) (je_if (jt_bool (je_call D_are_digits (hr.mono (by omega)) tk rfl (ja_cons (je_name 0) ja_nil))) (je_callTy cd_int nx_int rfl G.f_int (by decide +kernel) (jab_cons (JE.b (je_name 0)) jab_nil)) (je_name 0)))
theorem d_word_of {P : Program} {w : World} {K : PySem.W.Frag} {mg : Str → Option Value} {base : Heap} (G : Fx K mg) (D_are_digits : DF P w K mg base 3 "are_digits" s_are_digits ["text"] m_are_digits) {f : Addr} {fd : FuncData} (F : FunD K "word_of" "word_of" (defArgs s_word_of) (defBody s_word_of) (defScope s_word_of) [] [] f fd) (hx : mg "word_of" = some (.ref f)) : DF P w K mg base 4 "word_of" s_word_of ["text"] m_word_of :=
  DF.of F hx sc_word_of (fun _ _ _ _ _ _ us h => match us, h with | [_], _ => rfl) (fun ds s h => match ds, h with | [], _ => rfl | [_], h => absurd rfl h | _ :: _ :: _, _ => rfl) fun cdv A outer s H E ds hl hr => match ds, hl with | [a_text], _ => b_word_of G D_are_digits hr a_text
/-! high_of -/
abbrev s_high_of : Stmt := top 31
theorem sc_high_of : FnScope ["sign", "numbers", "major", "minor", "patch"] ["sign", "numbers"] (defScope s_high_of) := ⟨rfl, rfl, rfl, by decide +kernel, rfl, by decide +kernel, by decide +kernel⟩
def m_high_of : List D → M D
  | [a_sign, a_numbers] => (pure a_numbers >>= fun x46 => un3 x46 >>= fun b1 => (((pure a_sign >>= fun x2 => pure (D.str ("~" : Str)) >>= fun y3 => Op.eq x2 y3 >>= truthB) >>= fun c => if c then pure true else ((pure b1.1 >>= fun x4 => pure (D.int 0) >>= fun y5 => Op.eq x4 y5 >>= truthB) >>= fun c => if c then (pure b1.2.1 >>= fun x6 => pure (D.int 0) >>= fun y7 => Op.ne x6 y7 >>= truthB) else pure false)) >>= fun b => if b then (((((pure b1.1 >>= fun x15 => (pure b1.2.1 >>= fun x16 => (pure (D.int 0) >>= fun x17 => pure [] >>= fun x17s => pure (x17 :: x17s)) >>= fun x16s => pure (x16 :: x16s)) >>= fun x15s => pure (x15 :: x15s)) >>= Op.mkT) >>= fun x14 => pure [] >>= fun x14s => pure (x14 :: x14s)) >>= m_number_of) >>= fun x18 => pure c_BASE >>= fun y19 => Op.add x18 y19) else ((pure b1.1 >>= fun x33 => pure (D.int 0) >>= fun y34 => Op.ne x33 y34 >>= truthB) >>= fun t => if t then (((((pure b1.1 >>= fun x36 => (pure (D.int 0) >>= fun x37 => (pure (D.int 0) >>= fun x38 => pure [] >>= fun x38s => pure (x38 :: x38s)) >>= fun x37s => pure (x37 :: x37s)) >>= fun x36s => pure (x36 :: x36s)) >>= Op.mkT) >>= fun x35 => pure [] >>= fun x35s => pure (x35 :: x35s)) >>= m_number_of) >>= fun x41 => (pure c_BASE >>= fun x39 => pure c_BASE >>= fun y40 => Op.mul x39 y40) >>= fun y42 => Op.add x41 y42) else (((pure a_numbers >>= fun x43 => pure [] >>= fun x43s => pure (x43 :: x43s)) >>= m_number_of) >>= fun x44 => pure (D.int 1) >>= fun y45 => Op.add x44 y45))))
  | _ => M.bad
theorem b_high_of {P : Program} {w : World} {K : PySem.W.Frag} {mg : Str → Option Value} {base : Heap} (G : Fx K mg) (D_number_of : DF P w K mg base 3 "number_of" s_number_of ["numbers"] m_number_of) {f : Addr} {cdv : Value} {A : Around} {outer : List Env} {s : Shared} {H : Hp} {E : XK} (hr : Room 3 (A.deeper (envOfC "high_of" (defScope s_high_of) s.heap.objs.size f cdv))) (a_sign a_numbers : D) :
  JC (cxOf (L2.CX P w) P w K mg base ["sign", "numbers", "major", "minor", "patch"] "high_of" (defScope s_high_of) f cdv A outer s H E) (fun c d _ H2 => E c d H2) (List.replicate 5 none) [some (.val a_sign), some (.val a_numbers), none, none, none] (defBody s_high_of) U0 (m_high_of [a_sign, a_numbers]) .fin := by
  have tk : Takes (cxOf (L2.CX P w) P w K mg base ["sign", "numbers", "major", "minor", "patch"] "high_of" (defScope s_high_of) f cdv A outer s H E) (fun c d _ H2 => E c d H2) := takes_of rfl rfl rfl rfl
  exact (jc_tup (by first | exact weak_none rfl | exact Weak.rfl) (je_name 1) (pg_tup rfl (pgs_cons (pg_name (i := 2) sc_high_of.nd rfl (by first | exact Or.inl rfl | exact Or.inr rfl)) (pgs_cons (pg_name (i := 3) sc_high_of.nd rfl (by first | exact Or.inl rfl | exact Or.inr rfl)) (pgs_cons (pg_name (i := 4) sc_high_of.nd rfl (by first | exact Or.inl rfl | exact Or.inr rfl)) pgs_nil)))) (go_tup3 _ 2 3 4) (fun b1 => (jc_if (by first | exact weak_none rfl | exact Weak.rfl) (jt_w (jw_or (jt_cmp (od_eq hr.units) nx_eq (JE.b (je_name 0)) (JE.b je_str) rfl) (jw_or1 (jt_w (jw_and (jt_cmp (od_eq hr.units) nx_eq (JE.b (je_name 2)) (JE.b je_int) rfl) (jw_and1 (jt_cmp (od_ne hr.units) nx_ne (JE.b (je_name 3)) (JE.b je_int) rfl))))))) (jc_retF (by first | exact weak_none rfl | exact Weak.rfl) (je_op od_add nx_add (JE.b (je_call D_number_of (hr.mono (by omega)) tk rfl (ja_cons (je_tup (ja_cons (je_name 2) (ja_cons (je_name 3) (ja_cons je_int ja_nil)))) ja_nil))) (JE.b (je_gD G.g_BASE rfl)))) (jc_end (jc_retF (by first | exact weak_none rfl | exact Weak.rfl) (je_if (jt_cmp (od_ne hr.units) nx_ne (JE.b (je_name 2)) (JE.b je_int) rfl) (je_op od_add nx_add (JE.b (je_call D_number_of (hr.mono (by omega)) tk rfl (ja_cons (je_tup (ja_cons (je_name 2) (ja_cons je_int (ja_cons je_int ja_nil)))) ja_nil))) (JE.b (je_op od_mul nx_mul (JE.b (je_gD G.g_BASE rfl)) (JE.b (je_gD G.g_BASE rfl))))) (je_op od_add nx_add (JE.b (je_call D_number_of (hr.mono (by omega)) tk rfl (ja_cons (je_name 1) ja_nil))) (JE.b je_int))))))))
theorem d_high_of {P : Program} {w : World} {K : PySem.W.Frag} {mg : Str → Option Value} {base : Heap} (G : Fx K mg) (D_number_of : DF P w K mg base 3 "number_of" s_number_of ["numbers"] m_number_of) {f : Addr} {fd : FuncData} (F : FunD K "high_of" "high_of" (defArgs s_high_of) (defBody s_high_of) (defScope s_high_of) [] [] f fd) (hx : mg "high_of" = some (.ref f)) : DF P w K mg base 4 "high_of" s_high_of ["sign", "numbers"] m_high_of :=
  DF.of F hx sc_high_of (fun _ _ _ _ _ _ us h => match us, h with | [_, _], _ => rfl) (fun ds s h => match ds, h with | [], _ => rfl | [_], _ => rfl | [_, _], h => absurd rfl h | _ :: _ :: _ :: _, _ => rfl) fun cdv A outer s H E ds hl hr => match ds, hl with | [a_sign, a_numbers], _ => b_high_of G D_number_of hr a_sign a_numbers
/-! has_parts -/
abbrev s_has_parts : Stmt := top 40
theorem sc_has_parts : FnScope ["rows", "parts"] ["rows", "parts"] (defScope s_has_parts) := ⟨rfl, rfl, rfl, by decide +kernel, rfl, by decide +kernel, by decide +kernel⟩
def m_has_parts : List D → M D
  | [a_rows, a_parts] => (((pure a_parts >>= fun x10 => pure (D.int 3) >>= fun y11 => Op.idx x10 y11) >>= fun x12 => (pure [] >>= Op.mkT) >>= fun y13 => Op.eq x12 y13) >>= fun d => truthB d >>= fun c => if c then ((pure a_rows >>= fun x14 => ((((pure a_parts >>= fun x18 => pure none >>= fun lx18 => (pure (D.int 3) >>= fun x17 => Op.asInt x17 >>= fun i => pure (some i)) >>= fun hx18 => Op.slc x18 lx18 hx18) >>= fun x16 => pure [] >>= fun x16s => pure (x16 :: x16s)) >>= m_number_of) >>= fun x15 => pure [] >>= fun x15s => pure (x15 :: x15s)) >>= fun x14s => pure (x14 :: x14s)) >>= m_has_number) else pure (D.bl false))
  | _ => M.bad
theorem b_has_parts {P : Program} {w : World} {K : PySem.W.Frag} {mg : Str → Option Value} {base : Heap} (G : Fx K mg) (D_number_of : DF P w K mg base 3 "number_of" s_number_of ["numbers"] m_number_of) (D_has_number : DF P w K mg base 3 "has_number" s_has_number ["rows", "number"] m_has_number) {f : Addr} {cdv : Value} {A : Around} {outer : List Env} {s : Shared} {H : Hp} {E : XK} (hr : Room 3 (A.deeper (envOfC "has_parts" (defScope s_has_parts) s.heap.objs.size f cdv))) (a_rows a_parts : D) :
  JC (cxOf (L2.CX P w) P w K mg base ["rows", "parts"] "has_parts" (defScope s_has_parts) f cdv A outer s H E) (fun c d _ H2 => E c d H2) (List.replicate 2 none) [some (.val a_rows), some (.val a_parts)] (defBody s_has_parts) U0 (m_has_parts [a_rows, a_parts]) .fin := by
  have tk : Takes (cxOf (L2.CX P w) P w K mg base ["rows", "parts"] "has_parts" (defScope s_has_parts) f cdv A outer s H E) (fun c d _ H2 => E c d H2) := takes_of rfl rfl rfl rfl
  exact (jc_retF (by first | exact weak_none rfl | exact Weak.rfl) (je_and (je_cmp (od_eq hr.units) nx_eq (JE.b (je_ix (JE.b (je_name 1)) (JE.b je_int) (fun _ _ => rfl))) (JE.b (je_tup ja_nil)) rfl) (je_one (je_call D_has_number (hr.mono (by omega)) tk rfl (ja_cons (je_name 0) (ja_cons (je_call D_number_of (hr.mono (by omega)) tk rfl (ja_cons (je_slice (JE.b (je_name 1)) jo_none (jo_some je_int)) ja_nil)) ja_nil))))))
theorem d_has_parts {P : Program} {w : World} {K : PySem.W.Frag} {mg : Str → Option Value} {base : Heap} (G : Fx K mg) (D_number_of : DF P w K mg base 3 "number_of" s_number_of ["numbers"] m_number_of) (D_has_number : DF P w K mg base 3 "has_number" s_has_number ["rows", "number"] m_has_number) {f : Addr} {fd : FuncData} (F : FunD K "has_parts" "has_parts" (defArgs s_has_parts) (defBody s_has_parts) (defScope s_has_parts) [] [] f fd) (hx : mg "has_parts" = some (.ref f)) : DF P w K mg base 4 "has_parts" s_has_parts ["rows", "parts"] m_has_parts :=
  DF.of F hx sc_has_parts (fun _ _ _ _ _ _ us h => match us, h with | [_, _], _ => rfl) (fun ds s h => match ds, h with | [], _ => rfl | [_], _ => rfl | [_, _], h => absurd rfl h | _ :: _ :: _ :: _, _ => rfl) fun cdv A outer s H E ds hl hr => match ds, hl with | [a_rows, a_parts], _ => b_has_parts G D_number_of D_has_number hr a_rows a_parts
/-! _law_is_number -/
abbrev s__law_is_number : Stmt := top 49
theorem sc__law_is_number : FnScope ["text", "most"] ["text", "most"] (defScope s__law_is_number) := ⟨rfl, rfl, rfl, by decide +kernel, rfl, by decide +kernel, by decide +kernel⟩
def m__law_is_number : List D → M D
  | [a_text, a_most] => (((pure a_text >>= fun x11 => pure [] >>= fun x11s => pure (x11 :: x11s)) >>= m__law_is_digits) >>= fun d => truthB d >>= fun c => if c then ((((pure a_text >>= fun x12 => pure [] >>= fun x12s => pure (x12 :: x12s)) >>= Bi.len) >>= fun x13 => pure a_most >>= fun y14 => Op.leG x13 y14) >>= fun d => truthB d >>= fun c => if c then ((pure a_text >>= fun x15 => pure (D.str ("0" : Str)) >>= fun y16 => Op.eq x15 y16) >>= fun d => truthB d >>= fun c => if c then pure (D.bl true) else ((pure a_text >>= fun x17 => pure (D.int 0) >>= fun y18 => Op.idx x17 y18) >>= fun x19 => pure (D.str ("0" : Str)) >>= fun y20 => Op.ne x19 y20)) else pure (D.bl false)) else pure (D.bl false))
  | _ => M.bad
theorem b__law_is_number {P : Program} {w : World} {K : PySem.W.Frag} {mg : Str → Option Value} {base : Heap} (G : Fx K mg) (D__law_is_digits : DF P w K mg base 3 "_law_is_digits" s__law_is_digits ["text"] m__law_is_digits) {f : Addr} {cdv : Value} {A : Around} {outer : List Env} {s : Shared} {H : Hp} {E : XK} (hr : Room 3 (A.deeper (envOfC "_law_is_number" (defScope s__law_is_number) s.heap.objs.size f cdv))) (a_text a_most : D) :
  JC (cxOf (L2.CX P w) P w K mg base ["text", "most"] "_law_is_number" (defScope s__law_is_number) f cdv A outer s H E) (fun c d _ H2 => E c d H2) (List.replicate 2 none) [some (.val a_text), some (.val a_most)] (defBody s__law_is_number) U0 (m__law_is_number [a_text, a_most]) .fin := by
  have tk : Takes (cxOf (L2.CX P w) P w K mg base ["text", "most"] "_law_is_number" (defScope s__law_is_number) f cdv A outer s H E) (fun c d _ H2 => E c d H2) := takes_of rfl rfl rfl rfl
  exact (jc_retF (by first | exact weak_none rfl | exact Weak.rfl) (je_and (je_call D__law_is_digits (hr.mono (by omega)) tk rfl (ja_cons (je_name 0) ja_nil)) (je_and (je_cmp (od_leG hr.units) nx_leG (JE.b (je_callB cd_len nx_len rfl G.f_len (by decide +kernel) (jab_cons (JE.b (je_name 0)) jab_nil))) (JE.b (je_name 1)) rfl) (je_one (je_or (je_cmp (od_eq hr.units) nx_eq (JE.b (je_name 0)) (JE.b je_str) rfl) (je_one (je_cmp (od_ne hr.units) nx_ne (JE.b (je_ix (JE.b (je_name 0)) (JE.b je_int) (fun _ _ => rfl))) (JE.b je_str) rfl)))))))
theorem d__law_is_number {P : Program} {w : World} {K : PySem.W.Frag} {mg : Str → Option Value} {base : Heap} (G : Fx K mg) (D__law_is_digits : DF P w K mg base 3 "_law_is_digits" s__law_is_digits ["text"] m__law_is_digits) {f : Addr} {fd : FuncData} (F : FunD K "_law_is_number" "_law_is_number" (defArgs s__law_is_number) (defBody s__law_is_number) (defScope s__law_is_number) [] [] f fd) (hx : mg "_law_is_number" = some (.ref f)) : DF P w K mg base 4 "_law_is_number" s__law_is_number ["text", "most"] m__law_is_number :=
  DF.of F hx sc__law_is_number (fun _ _ _ _ _ _ us h => match us, h with | [_, _], _ => rfl) (fun ds s h => match ds, h with | [], _ => rfl | [_], _ => rfl | [_, _], h => absurd rfl h | _ :: _ :: _ :: _, _ => rfl) fun cdv A outer s H E ds hl hr => match ds, hl with | [a_text, a_most], _ => b__law_is_number G D__law_is_digits hr a_text a_most
/-! _law_number -/
abbrev s__law_number : Stmt := top 52
theorem sc__law_number : FnScope ["box"] ["box"] (defScope s__law_number) := ⟨rfl, rfl, rfl, by decide +kernel, rfl, by decide +kernel, by decide +kernel⟩
def m__law_number : List D → M D
  | [a_box] => (((pure (D.int 0) >>= fun x21 => (pure (D.int 1) >>= fun x22 => (pure (D.int 2) >>= fun x23 => (pure (D.int 3) >>= fun x24 => (((pure a_box >>= fun x26 => (pure (D.int 12) >>= fun x27 => pure [] >>= fun x27s => pure (x27 :: x27s)) >>= fun x26s => pure (x26 :: x26s)) >>= m__law_take) >>= fun x25 => ((((pure (D.int 9999) >>= fun x29 => (pure (D.int 9998) >>= fun x30 => (pure (D.int 100) >>= fun x31 => (pure (D.int 1000) >>= fun x32 => pure [] >>= fun x32s => pure (x32 :: x32s)) >>= fun x31s => pure (x31 :: x31s)) >>= fun x30s => pure (x30 :: x30s)) >>= fun x29s => pure (x29 :: x29s)) >>= Op.mkL) >>= fun x35 => ((pure a_box >>= fun x33 => (pure (D.int 4) >>= fun x34 => pure [] >>= fun x34s => pure (x34 :: x34s)) >>= fun x33s => pure (x33 :: x33s)) >>= m__law_take) >>= fun y36 => Op.idx x35 y36) >>= fun x28 => pure [] >>= fun x28s => pure (x28 :: x28s)) >>= fun x25s => pure (x25 :: x25s)) >>= fun x24s => pure (x24 :: x24s)) >>= fun x23s => pure (x23 :: x23s)) >>= fun x22s => pure (x22 :: x22s)) >>= fun x21s => pure (x21 :: x21s)) >>= Op.mkL) >>= fun x39 => ((pure a_box >>= fun x37 => (pure (D.int 6) >>= fun x38 => pure [] >>= fun x38s => pure (x38 :: x38s)) >>= fun x37s => pure (x37 :: x37s)) >>= m__law_take) >>= fun y40 => Op.idx x39 y40)
  | _ => M.bad
theorem b__law_number {P : Program} {w : World} {K : PySem.W.Frag} {mg : Str → Option Value} {base : Heap} (G : Fx K mg) (D__law_take : DF P w K mg base 3 "_law_take" s__law_take ["box", "many"] m__law_take) {f : Addr} {cdv : Value} {A : Around} {outer : List Env} {s : Shared} {H : Hp} {E : XK} (hr : Room 3 (A.deeper (envOfC "_law_number" (defScope s__law_number) s.heap.objs.size f cdv))) (a_box : D) :
  JC (cxOf (L2.CX P w) P w K mg base ["box"] "_law_number" (defScope s__law_number) f cdv A outer s H E) (fun c d _ H2 => E c d H2) (List.replicate 1 none) [some (.val a_box)] (defBody s__law_number) U0 (m__law_number [a_box]) .fin := by
  have tk : Takes (cxOf (L2.CX P w) P w K mg base ["box"] "_law_number" (defScope s__law_number) f cdv A outer s H E) (fun c d _ H2 => E c d H2) := takes_of rfl rfl rfl rfl
  exact (jc_retF (by first | exact weak_none rfl | exact Weak.rfl) (je_ix (JE.b (je_lst (ja_cons je_int (ja_cons je_int (ja_cons je_int (ja_cons je_int (ja_cons (je_call D__law_take (hr.mono (by omega)) tk rfl (ja_cons (je_name 0) (ja_cons je_int ja_nil))) (ja_cons (je_ix (JE.b (je_lst (ja_cons je_int (ja_cons je_int (ja_cons je_int (ja_cons je_int ja_nil)))))) (JE.b (je_call D__law_take (hr.mono (by omega)) tk rfl (ja_cons (je_name 0) (ja_cons je_int ja_nil)))) (fun _ _ => rfl)) ja_nil)))))))) (JE.b (je_call D__law_take (hr.mono (by omega)) tk rfl (ja_cons (je_name 0) (ja_cons je_int ja_nil)))) (fun _ _ => rfl)))
theorem d__law_number {P : Program} {w : World} {K : PySem.W.Frag} {mg : Str → Option Value} {base : Heap} (G : Fx K mg) (D__law_take : DF P w K mg base 3 "_law_take" s__law_take ["box", "many"] m__law_take) {f : Addr} {fd : FuncData} (F : FunD K "_law_number" "_law_number" (defArgs s__law_number) (defBody s__law_number) (defScope s__law_number) [] [] f fd) (hx : mg "_law_number" = some (.ref f)) : DF P w K mg base 4 "_law_number" s__law_number ["box"] m__law_number :=
  DF.of F hx sc__law_number (fun _ _ _ _ _ _ us h => match us, h with | [_], _ => rfl) (fun ds s h => match ds, h with | [], _ => rfl | [_], h => absurd rfl h | _ :: _ :: _, _ => rfl) fun cdv A outer s H E ds hl hr => match ds, hl with | [a_box], _ => b__law_number G D__law_take hr a_box
/-! _law_spoiled -/
abbrev s__law_spoiled : Stmt := top 55
theorem sc__law_spoiled : FnScope ["box", "text", "way", "at"] ["box", "text"] (defScope s__law_spoiled) := ⟨rfl, rfl, rfl, by decide +kernel, rfl, by decide +kernel, by decide +kernel⟩
def m__law_spoiled : List D → M D
  | [a_box, a_text] => (((pure a_box >>= fun x1 => (pure (D.int 7) >>= fun x2 => pure [] >>= fun x2s => pure (x2 :: x2s)) >>= fun x1s => pure (x1 :: x1s)) >>= m__law_take) >>= fun v8 => ((pure a_box >>= fun x3 => ((((pure a_text >>= fun x5 => pure [] >>= fun x5s => pure (x5 :: x5s)) >>= Bi.len) >>= fun x6 => pure (D.int 1) >>= fun y7 => Op.add x6 y7) >>= fun x4 => pure [] >>= fun x4s => pure (x4 :: x4s)) >>= fun x3s => pure (x3 :: x3s)) >>= m__law_take) >>= fun v9 => ((pure v8 >>= fun x10 => pure (D.int 3) >>= fun y11 => Op.ltG x10 y11 >>= truthB) >>= fun b => if b then (((pure a_text >>= fun x33 => pure none >>= fun lx33 => (pure v9 >>= fun x32 => Op.asInt x32 >>= fun i => pure (some i)) >>= fun hx33 => Op.slc x33 lx33 hx33) >>= fun x46 => (((pure (D.str ("0" : Str)) >>= fun x34 => (pure (D.str ("." : Str)) >>= fun x35 => (pure (D.str ("-" : Str)) >>= fun x36 => (pure (D.str (" " : Str)) >>= fun x37 => (pure (D.str ("A" : Str)) >>= fun x38 => (pure (D.str ("1" : Str)) >>= fun x39 => (pure (D.str ("v" : Str)) >>= fun x40 => (pure (D.str ("_" : Str)) >>= fun x41 => pure [] >>= fun x41s => pure (x41 :: x41s)) >>= fun x40s => pure (x40 :: x40s)) >>= fun x39s => pure (x39 :: x39s)) >>= fun x38s => pure (x38 :: x38s)) >>= fun x37s => pure (x37 :: x37s)) >>= fun x36s => pure (x36 :: x36s)) >>= fun x35s => pure (x35 :: x35s)) >>= fun x34s => pure (x34 :: x34s)) >>= Op.mkL) >>= fun x44 => ((pure a_box >>= fun x42 => (pure (D.int 8) >>= fun x43 => pure [] >>= fun x43s => pure (x43 :: x43s)) >>= fun x42s => pure (x42 :: x42s)) >>= m__law_take) >>= fun y45 => Op.idx x44 y45) >>= fun y47 => Op.add x46 y47) >>= fun x50 => (pure a_text >>= fun x49 => (pure v9 >>= fun x48 => Op.asInt x48 >>= fun i => pure (some i)) >>= fun lx49 => pure none >>= fun hx49 => Op.slc x49 lx49 hx49) >>= fun y51 => Op.add x50 y51) else ((pure v8 >>= fun x52 => pure (D.int 5) >>= fun y53 => Op.ltG x52 y53 >>= truthB) >>= fun b => if b then ((pure a_text >>= fun x63 => pure none >>= fun lx63 => (pure v9 >>= fun x62 => Op.asInt x62 >>= fun i => pure (some i)) >>= fun hx63 => Op.slc x63 lx63 hx63) >>= fun x68 => (pure a_text >>= fun x67 => ((pure v9 >>= fun x64 => pure (D.int 1) >>= fun y65 => Op.add x64 y65) >>= fun x66 => Op.asInt x66 >>= fun i => pure (some i)) >>= fun lx67 => pure none >>= fun hx67 => Op.slc x67 lx67 hx67) >>= fun y69 => Op.add x68 y69) else ((((pure a_text >>= fun x99 => pure (D.str ("-" : Str)) >>= fun y100 => Op.add x99 y100) >>= fun x98 => ((pure a_text >>= fun x102 => pure (D.str (".0" : Str)) >>= fun y103 => Op.add x102 y103) >>= fun x101 => ((pure (D.str ("v" : Str)) >>= fun x105 => pure a_text >>= fun y106 => Op.add x105 y106) >>= fun x104 => ((pure a_text >>= fun x108 => pure (D.str ("-01" : Str)) >>= fun y109 => Op.add x108 y109) >>= fun x107 => ((pure a_text >>= fun x111 => pure (D.str ("-abcdefg" : Str)) >>= fun y112 => Op.add x111 y112) >>= fun x110 => ((pure a_text >>= fun x114 => pure (D.str (" " : Str)) >>= fun y115 => Op.add x114 y115) >>= fun x113 => ((pure (D.str ("0" : Str)) >>= fun x117 => pure a_text >>= fun y118 => Op.add x117 y118) >>= fun x116 => ((pure a_text >>= fun x120 => pure (D.str ("-a.b.c.d" : Str)) >>= fun y121 => Op.add x120 y121) >>= fun x119 => pure [] >>= fun x119s => pure (x119 :: x119s)) >>= fun x116s => pure (x116 :: x116s)) >>= fun x113s => pure (x113 :: x113s)) >>= fun x110s => pure (x110 :: x110s)) >>= fun x107s => pure (x107 :: x107s)) >>= fun x104s => pure (x104 :: x104s)) >>= fun x101s => pure (x101 :: x101s)) >>= fun x98s => pure (x98 :: x98s)) >>= Op.mkL) >>= fun x124 => ((pure a_box >>= fun x122 => (pure (D.int 8) >>= fun x123 => pure [] >>= fun x123s => pure (x123 :: x123s)) >>= fun x122s => pure (x122 :: x122s)) >>= m__law_take) >>= fun y125 => Op.idx x124 y125))))
  | _ => M.bad
theorem b__law_spoiled {P : Program} {w : World} {K : PySem.W.Frag} {mg : Str → Option Value} {base : Heap} (G : Fx K mg) (D__law_take : DF P w K mg base 3 "_law_take" s__law_take ["box", "many"] m__law_take) {f : Addr} {cdv : Value} {A : Around} {outer : List Env} {s : Shared} {H : Hp} {E : XK} (hr : Room 3 (A.deeper (envOfC "_law_spoiled" (defScope s__law_spoiled) s.heap.objs.size f cdv))) (a_box a_text : D) :
  JC (cxOf (L2.CX P w) P w K mg base ["box", "text", "way", "at"] "_law_spoiled" (defScope s__law_spoiled) f cdv A outer s H E) (fun c d _ H2 => E c d H2) (List.replicate 4 none) [some (.val a_box), some (.val a_text), none, none] (defBody s__law_spoiled) U0 (m__law_spoiled [a_box, a_text]) .fin := by
  have tk : Takes (cxOf (L2.CX P w) P w K mg base ["box", "text", "way", "at"] "_law_spoiled" (defScope s__law_spoiled) f cdv A outer s H E) (fun c d _ H2 => E c d H2) := takes_of rfl rfl rfl rfl
  exact (jc_par (ka := .v) (kb := .v) 2 3 (by first | exact weak_none rfl | exact Weak.rfl) rfl sc__law_spoiled.nd (JE.k (je_call D__law_take (hr.mono (by omega)) tk rfl (ja_cons (je_name 0) (ja_cons je_int ja_nil)))) (JE.k (je_call D__law_take (hr.mono (by omega)) tk rfl (ja_cons (je_name 0) (ja_cons (je_op od_add nx_add (JE.b (je_callB cd_len nx_len rfl G.f_len (by decide +kernel) (jab_cons (JE.b (je_name 1)) jab_nil))) (JE.b je_int)) ja_nil)))) (fun v8 v9 => (jc_if (by first | exact weak_none rfl | exact Weak.rfl) (jt_cmp (od_ltG hr.units) nx_ltG (JE.b (je_name 2)) (JE.b je_int) rfl) (jc_retF (by first | exact weak_none rfl | exact Weak.rfl) (je_op od_add nx_add (JE.b (je_op od_add nx_add (JE.b (je_slice (JE.b (je_name 1)) jo_none (jo_some (je_name 3)))) (JE.b (je_ix (JE.b (je_lst (ja_cons je_str (ja_cons je_str (ja_cons je_str (ja_cons je_str (ja_cons je_str (ja_cons je_str (ja_cons je_str (ja_cons je_str ja_nil)))))))))) (JE.b (je_call D__law_take (hr.mono (by omega)) tk rfl (ja_cons (je_name 0) (ja_cons je_int ja_nil)))) (fun _ _ => rfl))))) (JE.b (je_slice (JE.b (je_name 1)) (jo_some (je_name 3)) jo_none)))) (jc_end (jc_if (by first | exact weak_none rfl | exact Weak.rfl) (jt_cmp (od_ltG hr.units) nx_ltG (JE.b (je_name 2)) (JE.b je_int) rfl) (jc_retF (by first | exact weak_none rfl | exact Weak.rfl) (je_op od_add nx_add (JE.b (je_slice (JE.b (je_name 1)) jo_none (jo_some (je_name 3)))) (JE.b (je_slice (JE.b (je_name 1)) (jo_some (je_op od_add nx_add (JE.b (je_name 3)) (JE.b je_int))) jo_none)))) (jc_end (jc_retF (by first | exact weak_none rfl | exact Weak.rfl) (je_ix (JE.b (je_lst (ja_cons (je_op od_add nx_add (JE.b (je_name 1)) (JE.b je_str)) (ja_cons (je_op od_add nx_add (JE.b (je_name 1)) (JE.b je_str)) (ja_cons (je_op od_add nx_add (JE.b je_str) (JE.b (je_name 1))) (ja_cons (je_op od_add nx_add (JE.b (je_name 1)) (JE.b je_str)) (ja_cons (je_op od_add nx_add (JE.b (je_name 1)) (JE.b je_str)) (ja_cons (je_op od_add nx_add (JE.b (je_name 1)) (JE.b je_str)) (ja_cons (je_op od_add nx_add (JE.b je_str) (JE.b (je_name 1))) (ja_cons (je_op od_add nx_add (JE.b (je_name 1)) (JE.b je_str)) ja_nil)))))))))) (JE.b (je_call D__law_take (hr.mono (by omega)) tk rfl (ja_cons (je_name 0) (ja_cons je_int ja_nil)))) (fun _ _ => rfl)))))))) rfl)
theorem d__law_spoiled {P : Program} {w : World} {K : PySem.W.Frag} {mg : Str → Option Value} {base : Heap} (G : Fx K mg) (D__law_take : DF P w K mg base 3 "_law_take" s__law_take ["box", "many"] m__law_take) {f : Addr} {fd : FuncData} (F : FunD K "_law_spoiled" "_law_spoiled" (defArgs s__law_spoiled) (defBody s__law_spoiled) (defScope s__law_spoiled) [] [] f fd) (hx : mg "_law_spoiled" = some (.ref f)) : DF P w K mg base 4 "_law_spoiled" s__law_spoiled ["box", "text"] m__law_spoiled :=
  DF.of F hx sc__law_spoiled (fun _ _ _ _ _ _ us h => match us, h with | [_, _], _ => rfl) (fun ds s h => match ds, h with | [], _ => rfl | [_], _ => rfl | [_, _], h => absurd rfl h | _ :: _ :: _ :: _, _ => rfl) fun cdv A outer s H E ds hl hr => match ds, hl with | [a_box, a_text], _ => b__law_spoiled G D__law_take hr a_box a_text
/-! is_word -/
abbrev s_is_word : Stmt := top 17
theorem sc_is_word : FnScope ["text", "sign"] ["text"] (defScope s_is_word) := ⟨rfl, rfl, rfl, by decide +kernel, rfl, by decide +kernel, by decide +kernel⟩
def m_is_word : List D → M D
  | [a_text] => ((((pure (D.int 1) >>= fun x2 => ((pure a_text >>= fun x1 => pure [] >>= fun x1s => pure (x1 :: x1s)) >>= Bi.len) >>= fun y3 => Op.leG x2 y3 >>= fun r => truthB r >>= fun t => if t then pure c_MOST_SIGNS >>= fun z4 => Op.leG y3 z4 >>= truthB else pure false) >>= fun b => pure (!b)) >>= fun c => if c then pure true else ((((((pure a_text >>= itemsOf) >>= comp fun x11 => (fun d => pure d) x11 >>= fun b6 => pure true >>= fun b => if b then ((pure b6 >>= fun x7 => pure c_LETTERS >>= fun y8 => Op.isIn x7 y8) >>= fun d => truthB d >>= fun c => if c then pure (D.bl true) else (pure b6 >>= fun x9 => pure c_DIGITS >>= fun y10 => Op.isIn x9 y10)) >>= fun y => pure (some y) else pure none) >>= fun x5 => pure [] >>= fun x5s => pure (x5 :: x5s)) >>= Bi.all) >>= truthB) >>= fun b => pure (!b))) >>= fun b => if b then pure (D.bl false) else ((((pure a_text >>= fun x15 => pure [] >>= fun x15s => pure (x15 :: x15s)) >>= m_are_digits) >>= fun d => truthB d >>= fun c => pure (D.bl (!c))) >>= fun d => truthB d >>= fun c => if c then pure (D.bl true) else ((pure a_text >>= fun x16 => (pure c_MOST_SIGNS >>= fun x17 => pure [] >>= fun x17s => pure (x17 :: x17s)) >>= fun x16s => pure (x16 :: x16s)) >>= m_is_number)))
  | _ => M.bad
theorem b_is_word {P : Program} {w : World} {K : PySem.W.Frag} {mg : Str → Option Value} {base : Heap} (G : Fx K mg) (D_are_digits : DF P w K mg base 3 "are_digits" s_are_digits ["text"] m_are_digits) (D_is_number : DF P w K mg base 4 "is_number" s_is_number ["text", "most"] m_is_number) {f : Addr} {cdv : Value} {A : Around} {outer : List Env} {s : Shared} {H : Hp} {E : XK} (hr : Room 4 (A.deeper (envOfC "is_word" (defScope s_is_word) s.heap.objs.size f cdv))) (a_text : D) :
  JC (cxOf (L2.CX P w) P w K mg base ["text", "sign"] "is_word" (defScope s_is_word) f cdv A outer s H E) (fun c d _ H2 => E c d H2) (List.replicate 2 none) [some (.val a_text), none] (defBody s_is_word) U0 (m_is_word [a_text]) .fin := by
  have tk : Takes (cxOf (L2.CX P w) P w K mg base ["text", "sign"] "is_word" (defScope s_is_word) f cdv A outer s H E) (fun c d _ H2 => E c d H2) := takes_of rfl rfl rfl rfl
  exact (jc_if (by first | exact weak_none rfl | exact Weak.rfl) (jt_w (jw_or (jt_not (jt_chain (od_leG hr.units) (od_leG hr.units) nx_leG nx_leG (JE.b je_int) (JE.b (je_callB cd_len nx_len rfl G.f_len (by decide +kernel) (jab_cons (JE.b (je_name 0)) jab_nil))) (JE.b (je_gD G.g_MOST_SIGNS rfl)))) (jw_or1 (jt_not (jt_bool (je_callB (cd_all rfl) nx_all rfl G.f_all (by decide +kernel) (jab_cons (JE.b (JF.je (jf_lc (own := [("sign", 1)]) rfl sc_is_word.nd (jib_any (JE.b (je_name 0))) (blk_of (by kernel_rfl)) (fun _ _ _ _ _ => (pg_name (i := 1) sc_is_word.nd rfl (by first | exact Or.inl rfl | exact Or.inr rfl))) (go_name _ 1) (by simp) (fun _ _ _ _ _ b6 => tY) (fun _ _ _ _ _ b6 => (je_or (je_cmp (od_in hr.units) nx_isIn (JE.b (je_name 1)) (JE.b (je_gD G.g_LETTERS rfl)) rfl) (je_one (je_cmp (od_in hr.units) nx_isIn (JE.b (je_name 1)) (JE.b (je_gD G.g_DIGITS rfl)) rfl))))))) jab_nil))))))) (jc_retF (by first | exact weak_none rfl | exact Weak.rfl) je_bl) (jc_end (jc_retF (by first | exact weak_none rfl | exact Weak.rfl) (je_or (je_not (je_call D_are_digits (hr.mono (by omega)) tk rfl (ja_cons (je_name 0) ja_nil))) (je_one (je_call D_is_number (hr.mono (by omega)) tk rfl (ja_cons (je_name 0) (ja_cons (je_gD G.g_MOST_SIGNS rfl) ja_nil))))))))
theorem d_is_word {P : Program} {w : World} {K : PySem.W.Frag} {mg : Str → Option Value} {base : Heap} (G : Fx K mg) (D_are_digits : DF P w K mg base 3 "are_digits" s_are_digits ["text"] m_are_digits) (D_is_number : DF P w K mg base 4 "is_number" s_is_number ["text", "most"] m_is_number) {f : Addr} {fd : FuncData} (F : FunD K "is_word" "is_word" (defArgs s_is_word) (defBody s_is_word) (defScope s_is_word) [] [] f fd) (hx : mg "is_word" = some (.ref f)) : DF P w K mg base 5 "is_word" s_is_word ["text"] m_is_word :=
  DF.of F hx sc_is_word (fun _ _ _ _ _ _ us h => match us, h with | [_], _ => rfl) (fun ds s h => match ds, h with | [], _ => rfl | [_], h => absurd rfl h | _ :: _ :: _, _ => rfl) fun cdv A outer s H E ds hl hr => match ds, hl with | [a_text], _ => b_is_word G D_are_digits D_is_number hr a_text
/-! bounds_of -/
abbrev s_bounds_of : Stmt := top 32
theorem sc_bounds_of : FnScope ["sign", "numbers", "here", "low", "high"] ["sign", "numbers"] (defScope s_bounds_of) := ⟨rfl, rfl, rfl, by decide +kernel, rfl, by decide +kernel, by decide +kernel⟩
def m_bounds_of : List D → M D
  | [a_sign, a_numbers] => (((pure a_numbers >>= fun x3 => pure [] >>= fun x3s => pure (x3 :: x3s)) >>= m_number_of) >>= fun v2 => ((pure a_sign >>= fun x6 => ((pure (D.str ("^" : Str)) >>= fun x4 => (pure (D.str ("~" : Str)) >>= fun x5 => pure [] >>= fun x5s => pure (x5 :: x5s)) >>= fun x4s => pure (x4 :: x4s)) >>= Op.mkT) >>= fun y7 => Op.isIn x6 y7 >>= truthB) >>= fun b => if b then ((pure v2 >>= fun x12 => (((pure a_sign >>= fun x14 => (pure a_numbers >>= fun x15 => pure [] >>= fun x15s => pure (x15 :: x15s)) >>= fun x14s => pure (x14 :: x14s)) >>= m_high_of) >>= fun x13 => pure [] >>= fun x13s => pure (x13 :: x13s)) >>= fun x12s => pure (x12 :: x12s)) >>= Op.mkT) else (((pure a_sign >>= fun x27 => ((pure (D.str ("=" : Str)) >>= fun x25 => (pure (D.str (">=" : Str)) >>= fun x26 => pure [] >>= fun x26s => pure (x26 :: x26s)) >>= fun x25s => pure (x25 :: x25s)) >>= Op.mkT) >>= fun y28 => Op.isIn x27 y28 >>= truthB) >>= fun t => if t then pure v2 else ((pure a_sign >>= fun x29 => pure (D.str (">" : Str)) >>= fun y30 => Op.eq x29 y30 >>= truthB) >>= fun t => if t then (pure v2 >>= fun x31 => pure (D.int 1) >>= fun y32 => Op.add x31 y32) else pure (D.int 0))) >>= fun v24 => (((pure a_sign >>= fun x42 => pure (D.str ("<" : Str)) >>= fun y43 => Op.eq x42 y43 >>= truthB) >>= fun t => if t then pure v2 else ((pure a_sign >>= fun x46 => ((pure (D.str ("=" : Str)) >>= fun x44 => (pure (D.str ("<=" : Str)) >>= fun x45 => pure [] >>= fun x45s => pure (x45 :: x45s)) >>= fun x44s => pure (x44 :: x44s)) >>= Op.mkT) >>= fun y47 => Op.isIn x46 y47 >>= truthB) >>= fun t => if t then (pure v2 >>= fun x48 => pure (D.int 1) >>= fun y49 => Op.add x48 y49) else pure c_END)) >>= fun v41 => ((pure v24 >>= fun x52 => (pure v41 >>= fun x53 => pure [] >>= fun x53s => pure (x53 :: x53s)) >>= fun x52s => pure (x52 :: x52s)) >>= Op.mkT)))))
  | _ => M.bad
theorem b_bounds_of {P : Program} {w : World} {K : PySem.W.Frag} {mg : Str → Option Value} {base : Heap} (G : Fx K mg) (D_number_of : DF P w K mg base 3 "number_of" s_number_of ["numbers"] m_number_of) (D_high_of : DF P w K mg base 4 "high_of" s_high_of ["sign", "numbers"] m_high_of) {f : Addr} {cdv : Value} {A : Around} {outer : List Env} {s : Shared} {H : Hp} {E : XK} (hr : Room 4 (A.deeper (envOfC "bounds_of" (defScope s_bounds_of) s.heap.objs.size f cdv))) (a_sign a_numbers : D) :
  JC (cxOf (L2.CX P w) P w K mg base ["sign", "numbers", "here", "low", "high"] "bounds_of" (defScope s_bounds_of) f cdv A outer s H E) (fun c d _ H2 => E c d H2) (List.replicate 5 none) [some (.val a_sign), some (.val a_numbers), none, none, none] (defBody s_bounds_of) U0 (m_bounds_of [a_sign, a_numbers]) .fin := by
  have tk : Takes (cxOf (L2.CX P w) P w K mg base ["sign", "numbers", "here", "low", "high"] "bounds_of" (defScope s_bounds_of) f cdv A outer s H E) (fun c d _ H2 => E c d H2) := takes_of rfl rfl rfl rfl
  exact (jc_set 2 (by first | exact weak_none rfl | exact Weak.rfl) sc_bounds_of.nd (je_call D_number_of (hr.mono (by omega)) tk rfl (ja_cons (je_name 1) ja_nil)) (fun v2 => (jc_if (by first | exact weak_none rfl | exact Weak.rfl) (jt_cmp (od_in hr.units) nx_isIn (JE.b (je_name 0)) (JE.b (je_tup (ja_cons je_str (ja_cons je_str ja_nil)))) rfl) (jc_retF (by first | exact weak_none rfl | exact Weak.rfl) (je_tup (ja_cons (je_name 2) (ja_cons (je_call D_high_of (hr.mono (by omega)) tk rfl (ja_cons (je_name 0) (ja_cons (je_name 1) ja_nil))) ja_nil)))) (jc_end (jc_set 3 (by first | exact weak_none rfl | exact Weak.rfl) sc_bounds_of.nd (je_if (jt_cmp (od_in hr.units) nx_isIn (JE.b (je_name 0)) (JE.b (je_tup (ja_cons je_str (ja_cons je_str ja_nil)))) rfl) (je_name 2) (je_if (jt_cmp (od_eq hr.units) nx_eq (JE.b (je_name 0)) (JE.b je_str) rfl) (je_op od_add nx_add (JE.b (je_name 2)) (JE.b je_int)) je_int)) (fun v24 => (jc_set 4 (by first | exact weak_none rfl | exact Weak.rfl) sc_bounds_of.nd (je_if (jt_cmp (od_eq hr.units) nx_eq (JE.b (je_name 0)) (JE.b je_str) rfl) (je_name 2) (je_if (jt_cmp (od_in hr.units) nx_isIn (JE.b (je_name 0)) (JE.b (je_tup (ja_cons je_str (ja_cons je_str ja_nil)))) rfl) (je_op od_add nx_add (JE.b (je_name 2)) (JE.b je_int)) (je_gD G.g_END rfl))) (fun v41 => (jc_retF (by first | exact weak_none rfl | exact Weak.rfl) (je_tup (ja_cons (je_name 3) (ja_cons (je_name 4) ja_nil))))))))))))
theorem d_bounds_of {P : Program} {w : World} {K : PySem.W.Frag} {mg : Str → Option Value} {base : Heap} (G : Fx K mg) (D_number_of : DF P w K mg base 3 "number_of" s_number_of ["numbers"] m_number_of) (D_high_of : DF P w K mg base 4 "high_of" s_high_of ["sign", "numbers"] m_high_of) {f : Addr} {fd : FuncData} (F : FunD K "bounds_of" "bounds_of" (defArgs s_bounds_of) (defBody s_bounds_of) (defScope s_bounds_of) [] [] f fd) (hx : mg "bounds_of" = some (.ref f)) : DF P w K mg base 5 "bounds_of" s_bounds_of ["sign", "numbers"] m_bounds_of :=
  DF.of F hx sc_bounds_of (fun _ _ _ _ _ _ us h => match us, h with | [_, _], _ => rfl) (fun ds s h => match ds, h with | [], _ => rfl | [_], _ => rfl | [_, _], h => absurd rfl h | _ :: _ :: _ :: _, _ => rfl) fun cdv A outer s H E ds hl hr => match ds, hl with | [a_sign, a_numbers], _ => b_bounds_of G D_number_of D_high_of hr a_sign a_numbers
/-! _law_parts -/
abbrev s__law_parts : Stmt := top 50
theorem sc__law_parts : FnScope ["text", "cut", "numbers", "word", "head", "words", "x", "c"] ["text"] (defScope s__law_parts) := ⟨rfl, rfl, rfl, by decide +kernel, rfl, by decide +kernel, by decide +kernel⟩
def m__law_parts : List D → M D
  | [a_text] => ((((pure a_text >>= Bi.isi "str") >>= truthB) >>= fun b => pure (!b)) >>= fun b => if b then pure D.non else ((pure a_text >>= fun d => Me.isStr d >>= fun _ => (pure (D.str ("-" : Str)) >>= fun x3 => pure [] >>= fun x3s => pure (x3 :: x3s)) >>= fun ds => Me.find d ds) >>= fun v2 => (((pure v2 >>= fun x4 => pure (D.int 0) >>= fun y5 => Op.ltG x4 y5 >>= truthB) >>= fun t => if t then pure a_text else (pure a_text >>= fun x7 => pure none >>= fun lx7 => (pure v2 >>= fun x6 => Op.asInt x6 >>= fun i => pure (some i)) >>= fun hx7 => Op.slc x7 lx7 hx7)) >>= fun v15 => ((pure v2 >>= fun x8 => pure (D.int 0) >>= fun y9 => Op.ltG x8 y9 >>= truthB) >>= fun t => if t then (pure [] >>= Op.mkL) else ((pure a_text >>= fun x13 => ((pure v2 >>= fun x10 => pure (D.int 1) >>= fun y11 => Op.add x10 y11) >>= fun x12 => Op.asInt x12 >>= fun i => pure (some i)) >>= fun lx13 => pure none >>= fun hx13 => Op.slc x13 lx13 hx13) >>= fun d => Me.isStr d >>= fun _ => (pure (D.str ("." : Str)) >>= fun x14 => pure [] >>= fun x14s => pure (x14 :: x14s)) >>= fun ds => Me.split d ds)) >>= fun v16 => ((pure v15 >>= fun d => Me.isStr d >>= fun _ => (pure (D.str ("." : Str)) >>= fun x19 => pure [] >>= fun x19s => pure (x19 :: x19s)) >>= fun ds => Me.split d ds) >>= fun v18 => (((((pure v18 >>= fun x20 => pure [] >>= fun x20s => pure (x20 :: x20s)) >>= Bi.len) >>= fun x21 => pure (D.int 3) >>= fun y22 => Op.ne x21 y22 >>= truthB) >>= fun c => if c then pure true else ((((pure v18 >>= itemsOf) >>= comp fun x26 => (fun d => pure d) x26 >>= fun b23 => ((((pure b23 >>= fun x24 => (pure (D.int 4) >>= fun x25 => pure [] >>= fun x25s => pure (x25 :: x25s)) >>= fun x24s => pure (x24 :: x24s)) >>= m__law_is_number) >>= truthB) >>= fun b => pure (!b)) >>= fun b => if b then pure b23 >>= fun y => pure (some y) else pure none) >>= fun x27 => (pure [] >>= Op.mkL) >>= fun y28 => Op.ne x27 y28 >>= truthB) >>= fun c => if c then pure true else (((pure v16 >>= fun x29 => pure [] >>= fun x29s => pure (x29 :: x29s)) >>= Bi.len) >>= fun x30 => pure (D.int 3) >>= fun y31 => Op.gtG x30 y31 >>= truthB))) >>= fun b => if b then pure D.non else (((pure v16 >>= itemsOf) >>= fun xs => forF (fun x47 (t32 : Unit) => (fun d => pure d) x47 >>= fun b33 => ((((pure (D.int 1) >>= fun x35 => ((pure b33 >>= fun x34 => pure [] >>= fun x34s => pure (x34 :: x34s)) >>= Bi.len) >>= fun y36 => Op.leG x35 y36 >>= fun r => truthB r >>= fun t => if t then pure (D.int 6) >>= fun z37 => Op.leG y36 z37 >>= truthB else pure false) >>= fun b => pure (!b)) >>= fun c => if c then pure true else (((pure b33 >>= itemsOf) >>= comp fun x41 => (fun d => pure d) x41 >>= fun b38 => (pure b38 >>= fun x39 => pure (D.str ("abcdefghijklmnopqrstuvwxyz0123456789" : Str)) >>= fun y40 => Op.notIn x39 y40 >>= truthB) >>= fun b => if b then pure b38 >>= fun y => pure (some y) else pure none) >>= fun x42 => (pure [] >>= Op.mkL) >>= fun y43 => Op.ne x42 y43 >>= truthB)) >>= fun b => if b then (pure D.non >>= fun d => pure (Fl.rt d)) else (((((pure b33 >>= fun x44 => pure [] >>= fun x44s => pure (x44 :: x44s)) >>= m__law_is_digits) >>= truthB) >>= fun c => if c then ((((pure b33 >>= fun x45 => (pure (D.int 6) >>= fun x46 => pure [] >>= fun x46s => pure (x46 :: x46s)) >>= fun x45s => pure (x45 :: x45s)) >>= m__law_is_number) >>= truthB) >>= fun b => pure (!b)) else pure false) >>= fun b => if b then (pure D.non >>= fun d => pure (Fl.rt d)) else pure (Fl.nx ())))) xs ()) >>= flK (fun (t32 : Unit) => (((((pure v18 >>= fun x68 => pure (D.int 0) >>= fun y69 => Op.idx x68 y69) >>= fun x67 => pure [] >>= fun x67s => pure (x67 :: x67s)) >>= Bi.int) >>= fun x66 => ((((pure v18 >>= fun x72 => pure (D.int 1) >>= fun y73 => Op.idx x72 y73) >>= fun x71 => pure [] >>= fun x71s => pure (x71 :: x71s)) >>= Bi.int) >>= fun x70 => ((((pure v18 >>= fun x76 => pure (D.int 2) >>= fun y77 => Op.idx x76 y77) >>= fun x75 => pure [] >>= fun x75s => pure (x75 :: x75s)) >>= Bi.int) >>= fun x74 => (((((pure v16 >>= itemsOf) >>= comp fun x83 => (fun d => pure d) x83 >>= fun b80 => pure true >>= fun b => if b then ((((pure b80 >>= fun x81 => pure [] >>= fun x81s => pure (x81 :: x81s)) >>= m__law_is_digits) >>= truthB) >>= fun t => if t then ((pure b80 >>= fun x82 => pure [] >>= fun x82s => pure (x82 :: x82s)) >>= Bi.int) else pure b80) >>= fun y => pure (some y) else pure none) >>= fun x79 => pure [] >>= fun x79s => pure (x79 :: x79s)) >>= Bi.tuple) >>= fun x78 => pure [] >>= fun x78s => pure (x78 :: x78s)) >>= fun x74s => pure (x74 :: x74s)) >>= fun x70s => pure (x70 :: x70s)) >>= fun x66s => pure (x66 :: x66s)) >>= Op.mkT)) (fun d => d)))))))
  | _ => M.bad
theorem b__law_parts {P : Program} {w : World} {K : PySem.W.Frag} {mg : Str → Option Value} {base : Heap} (G : Fx K mg) (D__law_is_digits : DF P w K mg base 3 "_law_is_digits" s__law_is_digits ["text"] m__law_is_digits) (D__law_is_number : DF P w K mg base 4 "_law_is_number" s__law_is_number ["text", "most"] m__law_is_number) {f : Addr} {cdv : Value} {A : Around} {outer : List Env} {s : Shared} {H : Hp} {E : XK} (hr : Room 4 (A.deeper (envOfC "_law_parts" (defScope s__law_parts) s.heap.objs.size f cdv))) (a_text : D) :
  JC (cxOf (L2.CX P w) P w K mg base ["text", "cut", "numbers", "word", "head", "words", "x", "c"] "_law_parts" (defScope s__law_parts) f cdv A outer s H E) (fun c d _ H2 => E c d H2) (List.replicate 8 none) [some (.val a_text), none, none, none, none, none, none, none] (defBody s__law_parts) U0 (m__law_parts [a_text]) .fin := by
  have tk : Takes (cxOf (L2.CX P w) P w K mg base ["text", "cut", "numbers", "word", "head", "words", "x", "c"] "_law_parts" (defScope s__law_parts) f cdv A outer s H E) (fun c d _ H2 => E c d H2) := takes_of rfl rfl rfl rfl
  exact (jc_if (by first | exact weak_none rfl | exact Weak.rfl) (jt_not (jt_bool (je_isi (T := "str") (by decide) rfl G.f_isinstance rfl G.f_str (by decide +kernel) (JE.b (je_name 0))))) (jc_retF (by first | exact weak_none rfl | exact Weak.rfl) je_non) (jc_end (jc_set 1 (by first | exact weak_none rfl | exact Weak.rfl) sc__law_parts.nd (je_strM PySem.F.slot_str_find PySem.F.type_str_find md_find nx_find (JE.b (je_name 0)) (jab_cons (JE.b je_str) jab_nil)) (fun v2 => (jc_par (ka := .v) (kb := .v) 4 5 (by first | exact weak_none rfl | exact Weak.rfl) rfl sc__law_parts.nd (JE.k (je_if (jt_cmp (od_ltG hr.units) nx_ltG (JE.b (je_name 1)) (JE.b je_int) rfl) (je_name 0) (je_slice (JE.b (je_name 0)) jo_none (jo_some (je_name 1))))) (JE.k (je_if (jt_cmp (od_ltG hr.units) nx_ltG (JE.b (je_name 1)) (JE.b je_int) rfl) (je_lst ja_nil) (je_strM PySem.F.slot_str_split PySem.F.type_str_split md_split nx_split (JE.b (je_slice (JE.b (je_name 0)) (jo_some (je_op od_add nx_add (JE.b (je_name 1)) (JE.b je_int))) jo_none)) (jab_cons (JE.b je_str) jab_nil)))) (fun v15 v16 => (jc_set 2 (by first | exact weak_none rfl | exact Weak.rfl) sc__law_parts.nd (je_strM PySem.F.slot_str_split PySem.F.type_str_split md_split nx_split (JE.b (je_name 4)) (jab_cons (JE.b je_str) jab_nil)) (fun v18 => (jc_if (by first | exact weak_none rfl | exact Weak.rfl) (jt_w (jw_or (jt_cmp (od_ne hr.units) nx_ne (JE.b (je_callB cd_len nx_len rfl G.f_len (by decide +kernel) (jab_cons (JE.b (je_name 2)) jab_nil))) (JE.b je_int) rfl) (jw_or (jt_cmp (od_ne hr.units) nx_ne (JE.b (JF.je (jf_lc (own := [("x", 6)]) rfl sc__law_parts.nd (jib_any (JE.b (je_name 2))) (blk_of (by kernel_rfl)) (fun _ _ _ _ _ => (pg_name (i := 6) sc__law_parts.nd rfl (by first | exact Or.inl rfl | exact Or.inr rfl))) (go_name _ 6) (by simp) (fun _ _ _ _ _ b23 => (t1 (jt_not (jt_bool (je_call D__law_is_number (hr.mono (by omega)) takes_none5 rfl (ja_cons (je_name 6) (ja_cons je_int ja_nil))))))) (fun _ _ _ _ _ b23 => (je_name 6))))) (JE.b (je_lst ja_nil)) rfl) (jw_or1 (jt_cmp (od_gtG hr.units) nx_gtG (JE.b (je_callB cd_len nx_len rfl G.f_len (by decide +kernel) (jab_cons (JE.b (je_name 5)) jab_nil))) (JE.b je_int) rfl))))) (jc_retF (by first | exact weak_none rfl | exact Weak.rfl) je_non) (jc_end (jc_fl2 (r := (fun d => d)) (j1_forF (eN := (fun (t32 : Unit) => ([some (.val a_text), some (.val v2), some (.val v18), none, some (.val v15), some (.val v16), none, none] : EnvD))) (t0 := ()) (passes_of rfl) rfl (by first | exact weak_none rfl | exact Weak.rfl) (ji_any (je_name 5)) (pg_name (i := 3) sc__law_parts.nd rfl (by first | exact Or.inl rfl | exact Or.inr rfl)) (go_name _ 3) (by repeat (first | exact Weak.nil | refine Weak.same ?_ | refine Weak.none ?_)) (fun t32 b33 => (jc_if (by first | exact weak_none rfl | exact Weak.rfl) (jt_w (jw_or (jt_not (jt_chain (od_leG hr.units) (od_leG hr.units) nx_leG nx_leG (JE.b je_int) (JE.b (je_callB cd_len nx_len rfl G.f_len (by decide +kernel) (jab_cons (JE.b (je_name 3)) jab_nil))) (JE.b je_int))) (jw_or1 (jt_cmp (od_ne hr.units) nx_ne (JE.b (JF.je (jf_lc (own := [("c", 7)]) rfl sc__law_parts.nd (jib_any (JE.b (je_name 3))) (blk_of (by kernel_rfl)) (fun _ _ _ _ _ => (pg_name (i := 7) sc__law_parts.nd rfl (by first | exact Or.inl rfl | exact Or.inr rfl))) (go_name _ 7) (by simp) (fun _ _ _ _ _ b38 => (t1 (jt_cmp (od_notIn hr.units) nx_notIn (JE.b (je_name 7)) (JE.b je_str) rfl))) (fun _ _ _ _ _ b38 => (je_name 7))))) (JE.b (je_lst ja_nil)) rfl)))) (jc_ret (r := Fl.rt) (by first | exact weak_none rfl | exact Weak.rfl) je_non (fun _ => .inl rfl)) (jc_end (jc_if (by first | exact weak_none rfl | exact Weak.rfl) (jt_w (jw_and (jt_bool (je_call D__law_is_digits (hr.mono (by omega)) tk rfl (ja_cons (je_name 3) ja_nil))) (jw_and1 (jt_not (jt_bool (je_call D__law_is_number (hr.mono (by omega)) tk rfl (ja_cons (je_name 3) (ja_cons je_int ja_nil)))))))) (jc_ret (r := Fl.rt) (by first | exact weak_none rfl | exact Weak.rfl) je_non (fun _ => .inl rfl)) (jc_end (jc_nil (by repeat (first | exact Weak.nil | refine Weak.same ?_ | refine Weak.none ?_)) (.inr rfl)))))))) (fun t32 => (jc_retF (by first | exact weak_none rfl | exact Weak.rfl) (je_tup (ja_cons (je_callTy cd_int nx_int rfl G.f_int (by decide +kernel) (jab_cons (JE.b (je_ix (JE.b (je_name 2)) (JE.b je_int) (fun _ _ => rfl))) jab_nil)) (ja_cons (je_callTy cd_int nx_int rfl G.f_int (by decide +kernel) (jab_cons (JE.b (je_ix (JE.b (je_name 2)) (JE.b je_int) (fun _ _ => rfl))) jab_nil)) (ja_cons (je_callTy cd_int nx_int rfl G.f_int (by decide +kernel) (jab_cons (JE.b (je_ix (JE.b (je_name 2)) (JE.b je_int) (fun _ _ => rfl))) jab_nil)) (ja_cons (je_callTy cd_tuple nx_tuple rfl G.f_tuple (by decide +kernel) (jab_cons (JE.b (JF.je (jf_lc (own := [("word", 3)]) rfl sc__law_parts.nd (jib_any (JE.b (je_name 5))) (blk_of (by kernel_rfl)) (fun _ _ _ _ _ => (pg_name (i := 3) sc__law_parts.nd rfl (by first | exact Or.inl rfl | exact Or.inr rfl))) (go_name _ 3) (by simp) (fun _ _ _ _ _ b80 => tY) (fun _ _ _ _ _ b80 => (je_if (jt_bool (je_call D__law_is_digits (hr.mono (by omega)) takes_none5 rfl (ja_cons (je_name 3) ja_nil))) (je_callTy cd_int nx_int rfl G.f_int (by decide +kernel) (jab_cons (JE.b (je_name 3)) jab_nil)) (je_name 3)))))) jab_nil)) ja_nil))))))) (fun _ => .inr rfl))))))) rfl)))))
theorem d__law_parts {P : Program} {w : World} {K : PySem.W.Frag} {mg : Str → Option Value} {base : Heap} (G : Fx K mg) (D__law_is_digits : DF P w K mg base 3 "_law_is_digits" s__law_is_digits ["text"] m__law_is_digits) (D__law_is_number : DF P w K mg base 4 "_law_is_number" s__law_is_number ["text", "most"] m__law_is_number) {f : Addr} {fd : FuncData} (F : FunD K "_law_parts" "_law_parts" (defArgs s__law_parts) (defBody s__law_parts) (defScope s__law_parts) [] [] f fd) (hx : mg "_law_parts" = some (.ref f)) : DF P w K mg base 5 "_law_parts" s__law_parts ["text"] m__law_parts :=
  DF.of F hx sc__law_parts (fun _ _ _ _ _ _ us h => match us, h with | [_], _ => rfl) (fun ds s h => match ds, h with | [], _ => rfl | [_], h => absurd rfl h | _ :: _ :: _, _ => rfl) fun cdv A outer s H E ds hl hr => match ds, hl with | [a_text], _ => b__law_parts G D__law_is_digits D__law_is_number hr a_text
/-! _law_drawn_parts -/
abbrev s__law_drawn_parts : Stmt := top 53
theorem sc__law_drawn_parts : FnScope ["box", "words", "k"] ["box"] (defScope s__law_drawn_parts) := ⟨rfl, rfl, rfl, by decide +kernel, rfl, by decide +kernel, by decide +kernel⟩
def m__law_drawn_parts : List D → M D
  | [a_box] => ((pure [] >>= Op.mkL) >>= lstK fun w1 => (((((pure a_box >>= fun x3 => (pure (D.int 3) >>= fun x4 => pure [] >>= fun x4s => pure (x4 :: x4s)) >>= fun x3s => pure (x3 :: x3s)) >>= m__law_take) >>= fun x5 => pure (D.int 0) >>= fun y6 => Op.eq x5 y6 >>= truthB) >>= fun b => if b then (((((pure (D.int 1) >>= fun x11 => ((pure a_box >>= fun x9 => (pure (D.int 3) >>= fun x10 => pure [] >>= fun x10s => pure (x10 :: x10s)) >>= fun x9s => pure (x9 :: x9s)) >>= m__law_take) >>= fun y12 => Op.add x11 y12) >>= fun x8 => pure [] >>= fun x8s => pure (x8 :: x8s)) >>= rng1) >>= fun xs => forN (fun x30 (t7 : List D) => (fun d => pure d) x30 >>= fun b13 => ((((pure (D.int 0) >>= fun x14 => (pure (D.int 1) >>= fun x15 => (pure (D.int 9) >>= fun x16 => (pure (D.int 10) >>= fun x17 => (pure (D.int 999999) >>= fun x18 => (pure (D.str ("a" : Str)) >>= fun x19 => (pure (D.str ("b" : Str)) >>= fun x20 => (pure (D.str ("rc" : Str)) >>= fun x21 => (pure (D.str ("a1" : Str)) >>= fun x22 => (pure (D.str ("1a" : Str)) >>= fun x23 => (pure (D.str ("zzzzzz" : Str)) >>= fun x24 => pure [] >>= fun x24s => pure (x24 :: x24s)) >>= fun x23s => pure (x23 :: x23s)) >>= fun x22s => pure (x22 :: x22s)) >>= fun x21s => pure (x21 :: x21s)) >>= fun x20s => pure (x20 :: x20s)) >>= fun x19s => pure (x19 :: x19s)) >>= fun x18s => pure (x18 :: x18s)) >>= fun x17s => pure (x17 :: x17s)) >>= fun x16s => pure (x16 :: x16s)) >>= fun x15s => pure (x15 :: x15s)) >>= fun x14s => pure (x14 :: x14s)) >>= Op.mkL) >>= fun x27 => ((pure a_box >>= fun x25 => (pure (D.int 11) >>= fun x26 => pure [] >>= fun x26s => pure (x26 :: x26s)) >>= fun x25s => pure (x25 :: x25s)) >>= m__law_take) >>= fun y28 => Op.idx x27 y28) >>= fun v29 => if Op.lenOk (List.length t7 + 1) then pure (t7 ++ [v29]) else M.bad)) xs w1) >>= fun (t7 : List D) => pure t7) else pure w1) >>= fun (t2 : List D) => ((((pure a_box >>= fun x40 => pure [] >>= fun x40s => pure (x40 :: x40s)) >>= m__law_number) >>= fun x39 => (((pure a_box >>= fun x42 => pure [] >>= fun x42s => pure (x42 :: x42s)) >>= m__law_number) >>= fun x41 => (((pure a_box >>= fun x44 => pure [] >>= fun x44s => pure (x44 :: x44s)) >>= m__law_number) >>= fun x43 => (((pure (D.lst t2) >>= fun x46 => pure [] >>= fun x46s => pure (x46 :: x46s)) >>= Bi.tuple) >>= fun x45 => pure [] >>= fun x45s => pure (x45 :: x45s)) >>= fun x43s => pure (x43 :: x43s)) >>= fun x41s => pure (x41 :: x41s)) >>= fun x39s => pure (x39 :: x39s)) >>= Op.mkT)))
  | _ => M.bad
theorem b__law_drawn_parts {P : Program} {w : World} {K : PySem.W.Frag} {mg : Str → Option Value} {base : Heap} (G : Fx K mg) (D__law_take : DF P w K mg base 3 "_law_take" s__law_take ["box", "many"] m__law_take) (D__law_number : DF P w K mg base 4 "_law_number" s__law_number ["box"] m__law_number) {f : Addr} {cdv : Value} {A : Around} {outer : List Env} {s : Shared} {H : Hp} {E : XK} (hr : Room 4 (A.deeper (envOfC "_law_drawn_parts" (defScope s__law_drawn_parts) s.heap.objs.size f cdv))) (a_box : D) :
  JC (cxOf (L2.CX P w) P w K mg base ["box", "words", "k"] "_law_drawn_parts" (defScope s__law_drawn_parts) f cdv A outer s H E) (fun c d _ H2 => E c d H2) (List.replicate 3 none) [some (.val a_box), none, none] (defBody s__law_drawn_parts) U0 (m__law_drawn_parts [a_box]) .fin := by
  have tk : Takes (cxOf (L2.CX P w) P w K mg base ["box", "words", "k"] "_law_drawn_parts" (defScope s__law_drawn_parts) f cdv A outer s H E) (fun c d _ H2 => E c d H2) := takes_of rfl rfl rfl rfl
  exact (jc_setOwn 1 (by first | exact weak_none rfl | exact Weak.rfl) sc__law_drawn_parts.nd (jf_lst ja_nil) (jc_lstK (f := fun d => _) fun w1 => (jc_nx (j1_if (dec := decN (fun (t2 : List D) => ([some (.val a_box), some (.own (.lst t2)), none] : EnvD))) (by first | exact weak_none rfl | exact Weak.rfl) (jt_cmp (od_eq hr.units) nx_eq (JE.b (je_call D__law_take (hr.mono (by omega)) tk rfl (ja_cons (je_name 0) (ja_cons je_int ja_nil)))) (JE.b je_int) rfl) (jc_nx (j1_forN (eN := (fun (t7 : List D) => ([some (.val a_box), some (.own (.lst t7)), none] : EnvD))) (t0 := w1) (passes_of rfl) rfl (by first | exact weak_none rfl | exact Weak.rfl) (ji_range1 rfl G.f_range (jab_cons (JE.b (je_op od_add nx_add (JE.b je_int) (JE.b (je_call D__law_take (hr.mono (by omega)) tk rfl (ja_cons (je_name 0) (ja_cons je_int ja_nil)))))) jab_nil)) (pg_name (i := 2) sc__law_drawn_parts.nd rfl (by first | exact Or.inl rfl | exact Or.inr rfl)) (go_name _ 2) (by repeat (first | exact Weak.nil | refine Weak.same ?_ | refine Weak.none ?_)) (fun t7 b13 => (jc_append 1 (by first | exact weak_none rfl | exact Weak.rfl) (je_ix (JE.b (je_lst (ja_cons je_int (ja_cons je_int (ja_cons je_int (ja_cons je_int (ja_cons je_int (ja_cons je_str (ja_cons je_str (ja_cons je_str (ja_cons je_str (ja_cons je_str (ja_cons je_str ja_nil))))))))))))) (JE.b (je_call D__law_take (hr.mono (by omega)) tk rfl (ja_cons (je_name 0) (ja_cons je_int ja_nil)))) (fun _ _ => rfl)) (fun v29 => (jc_nil (by repeat (first | exact Weak.nil | refine Weak.same ?_ | refine Weak.none ?_)) (.inr rfl)))))) (fun t7 => (jc_nil (by repeat (first | exact Weak.nil | refine Weak.same ?_ | refine Weak.none ?_)) (.inl rfl)))) (jc_nil (by repeat (first | exact Weak.nil | refine Weak.same ?_ | refine Weak.none ?_)) (.inl rfl))) (fun t2 => (jc_retF (by first | exact weak_none rfl | exact Weak.rfl) (je_tup (ja_cons (je_call D__law_number (hr.mono (by omega)) tk rfl (ja_cons (je_name 0) ja_nil)) (ja_cons (je_call D__law_number (hr.mono (by omega)) tk rfl (ja_cons (je_name 0) ja_nil)) (ja_cons (je_call D__law_number (hr.mono (by omega)) tk rfl (ja_cons (je_name 0) ja_nil)) (ja_cons (je_callTy cd_tuple nx_tuple rfl G.f_tuple (by decide +kernel) (jab_cons (jb_own 1) jab_nil)) ja_nil))))))))))
theorem d__law_drawn_parts {P : Program} {w : World} {K : PySem.W.Frag} {mg : Str → Option Value} {base : Heap} (G : Fx K mg) (D__law_take : DF P w K mg base 3 "_law_take" s__law_take ["box", "many"] m__law_take) (D__law_number : DF P w K mg base 4 "_law_number" s__law_number ["box"] m__law_number) {f : Addr} {fd : FuncData} (F : FunD K "_law_drawn_parts" "_law_drawn_parts" (defArgs s__law_drawn_parts) (defBody s__law_drawn_parts) (defScope s__law_drawn_parts) [] [] f fd) (hx : mg "_law_drawn_parts" = some (.ref f)) : DF P w K mg base 5 "_law_drawn_parts" s__law_drawn_parts ["box"] m__law_drawn_parts :=
  DF.of F hx sc__law_drawn_parts (fun _ _ _ _ _ _ us h => match us, h with | [_], _ => rfl) (fun ds s h => match ds, h with | [], _ => rfl | [_], h => absurd rfl h | _ :: _ :: _, _ => rfl) fun cdv A outer s H E ds hl hr => match ds, hl with | [a_box], _ => b__law_drawn_parts G D__law_take D__law_number hr a_box
/-! _law_base -/
abbrev s__law_base : Stmt := top 61
theorem sc__law_base : FnScope ["box", "way"] ["box"] (defScope s__law_base) := ⟨rfl, rfl, rfl, by decide +kernel, rfl, by decide +kernel, by decide +kernel⟩
def m__law_base : List D → M D
  | [a_box] => (((pure a_box >>= fun x4 => (pure (D.int 6) >>= fun x5 => pure [] >>= fun x5s => pure (x5 :: x5s)) >>= fun x4s => pure (x4 :: x4s)) >>= m__law_take) >>= fun v3 => ((pure v3 >>= fun x6 => pure (D.int 4) >>= fun y7 => Op.ltG x6 y7 >>= truthB) >>= fun b => if b then ((((pure a_box >>= fun x18 => (pure (D.int 3) >>= fun x19 => pure [] >>= fun x19s => pure (x19 :: x19s)) >>= fun x18s => pure (x18 :: x18s)) >>= m__law_take) >>= fun x17 => (((pure a_box >>= fun x21 => (pure (D.int 3) >>= fun x22 => pure [] >>= fun x22s => pure (x22 :: x22s)) >>= fun x21s => pure (x21 :: x21s)) >>= m__law_take) >>= fun x20 => (((pure a_box >>= fun x24 => (pure (D.int 4) >>= fun x25 => pure [] >>= fun x25s => pure (x25 :: x25s)) >>= fun x24s => pure (x24 :: x24s)) >>= m__law_take) >>= fun x23 => pure [] >>= fun x23s => pure (x23 :: x23s)) >>= fun x20s => pure (x20 :: x20s)) >>= fun x17s => pure (x17 :: x17s)) >>= Op.mkT) else ((((pure a_box >>= fun x33 => pure [] >>= fun x33s => pure (x33 :: x33s)) >>= m__law_number) >>= fun x32 => (((pure a_box >>= fun x35 => pure [] >>= fun x35s => pure (x35 :: x35s)) >>= m__law_number) >>= fun x34 => (((pure a_box >>= fun x37 => pure [] >>= fun x37s => pure (x37 :: x37s)) >>= m__law_number) >>= fun x36 => pure [] >>= fun x36s => pure (x36 :: x36s)) >>= fun x34s => pure (x34 :: x34s)) >>= fun x32s => pure (x32 :: x32s)) >>= Op.mkT)))
  | _ => M.bad
theorem b__law_base {P : Program} {w : World} {K : PySem.W.Frag} {mg : Str → Option Value} {base : Heap} (G : Fx K mg) (D__law_take : DF P w K mg base 3 "_law_take" s__law_take ["box", "many"] m__law_take) (D__law_number : DF P w K mg base 4 "_law_number" s__law_number ["box"] m__law_number) {f : Addr} {cdv : Value} {A : Around} {outer : List Env} {s : Shared} {H : Hp} {E : XK} (hr : Room 4 (A.deeper (envOfC "_law_base" (defScope s__law_base) s.heap.objs.size f cdv))) (a_box : D) :
  JC (cxOf (L2.CX P w) P w K mg base ["box", "way"] "_law_base" (defScope s__law_base) f cdv A outer s H E) (fun c d _ H2 => E c d H2) (List.replicate 2 none) [some (.val a_box), none] (defBody s__law_base) U0 (m__law_base [a_box]) .fin := by
  have tk : Takes (cxOf (L2.CX P w) P w K mg base ["box", "way"] "_law_base" (defScope s__law_base) f cdv A outer s H E) (fun c d _ H2 => E c d H2) := takes_of rfl rfl rfl rfl
  exact (jc_set 1 (by first | exact weak_none rfl | exact Weak.rfl) sc__law_base.nd (je_call D__law_take (hr.mono (by omega)) tk rfl (ja_cons (je_name 0) (ja_cons je_int ja_nil))) (fun v3 => (jc_if (by first | exact weak_none rfl | exact Weak.rfl) (jt_cmp (od_ltG hr.units) nx_ltG (JE.b (je_name 1)) (JE.b je_int) rfl) (jc_retF (by first | exact weak_none rfl | exact Weak.rfl) (je_tup (ja_cons (je_call D__law_take (hr.mono (by omega)) tk rfl (ja_cons (je_name 0) (ja_cons je_int ja_nil))) (ja_cons (je_call D__law_take (hr.mono (by omega)) tk rfl (ja_cons (je_name 0) (ja_cons je_int ja_nil))) (ja_cons (je_call D__law_take (hr.mono (by omega)) tk rfl (ja_cons (je_name 0) (ja_cons je_int ja_nil))) ja_nil))))) (jc_end (jc_retF (by first | exact weak_none rfl | exact Weak.rfl) (je_tup (ja_cons (je_call D__law_number (hr.mono (by omega)) tk rfl (ja_cons (je_name 0) ja_nil)) (ja_cons (je_call D__law_number (hr.mono (by omega)) tk rfl (ja_cons (je_name 0) ja_nil)) (ja_cons (je_call D__law_number (hr.mono (by omega)) tk rfl (ja_cons (je_name 0) ja_nil)) ja_nil)))))))))
theorem d__law_base {P : Program} {w : World} {K : PySem.W.Frag} {mg : Str → Option Value} {base : Heap} (G : Fx K mg) (D__law_take : DF P w K mg base 3 "_law_take" s__law_take ["box", "many"] m__law_take) (D__law_number : DF P w K mg base 4 "_law_number" s__law_number ["box"] m__law_number) {f : Addr} {fd : FuncData} (F : FunD K "_law_base" "_law_base" (defArgs s__law_base) (defBody s__law_base) (defScope s__law_base) [] [] f fd) (hx : mg "_law_base" = some (.ref f)) : DF P w K mg base 5 "_law_base" s__law_base ["box"] m__law_base :=
  DF.of F hx sc__law_base (fun _ _ _ _ _ _ us h => match us, h with | [_], _ => rfl) (fun ds s h => match ds, h with | [], _ => rfl | [_], h => absurd rfl h | _ :: _ :: _, _ => rfl) fun cdv A outer s H E ds hl hr => match ds, hl with | [a_box], _ => b__law_base G D__law_take D__law_number hr a_box
/-! _law_bent -/
abbrev s__law_bent : Stmt := top 65
theorem sc__law_bent : FnScope ["box", "text", "way", "more"] ["box", "text"] (defScope s__law_bent) := ⟨rfl, rfl, rfl, by decide +kernel, rfl, by decide +kernel, by decide +kernel⟩
def m__law_bent : List D → M D
  | [a_box, a_text] => (((pure a_box >>= fun x4 => (pure (D.int 4) >>= fun x5 => pure [] >>= fun x5s => pure (x5 :: x5s)) >>= fun x4s => pure (x4 :: x4s)) >>= m__law_take) >>= fun v3 => ((pure v3 >>= fun x6 => pure (D.int 2) >>= fun y7 => Op.ltG x6 y7 >>= truthB) >>= fun b => if b then ((pure a_box >>= fun x10 => (pure a_text >>= fun x11 => pure [] >>= fun x11s => pure (x11 :: x11s)) >>= fun x10s => pure (x10 :: x10s)) >>= m__law_spoiled) else ((((pure (D.str ("||" : Str)) >>= fun x30 => (pure (D.str (" || " : Str)) >>= fun x31 => (pure (D.str (" |" : Str)) >>= fun x32 => (pure (D.str ("  " : Str)) >>= fun x33 => (pure (D.str (" =1.0.0-a" : Str)) >>= fun x34 => (pure (D.str (" >1.0" : Str)) >>= fun x35 => (pure (D.str (" =" : Str)) >>= fun x36 => (pure (D.str (" v1.0.0" : Str)) >>= fun x37 => (pure (D.str (" !1.0.0" : Str)) >>= fun x38 => (pure (D.str (" ** " : Str)) >>= fun x39 => (pure (D.str (" ~*" : Str)) >>= fun x40 => (pure (D.str (" =>1.0.0" : Str)) >>= fun x41 => (pure (D.str (" < 1.0.0" : Str)) >>= fun x42 => pure [] >>= fun x42s => pure (x42 :: x42s)) >>= fun x41s => pure (x41 :: x41s)) >>= fun x40s => pure (x40 :: x40s)) >>= fun x39s => pure (x39 :: x39s)) >>= fun x38s => pure (x38 :: x38s)) >>= fun x37s => pure (x37 :: x37s)) >>= fun x36s => pure (x36 :: x36s)) >>= fun x35s => pure (x35 :: x35s)) >>= fun x34s => pure (x34 :: x34s)) >>= fun x33s => pure (x33 :: x33s)) >>= fun x32s => pure (x32 :: x32s)) >>= fun x31s => pure (x31 :: x31s)) >>= fun x30s => pure (x30 :: x30s)) >>= Op.mkL) >>= fun x45 => ((pure a_box >>= fun x43 => (pure (D.int 13) >>= fun x44 => pure [] >>= fun x44s => pure (x44 :: x44s)) >>= fun x43s => pure (x43 :: x43s)) >>= m__law_take) >>= fun y46 => Op.idx x45 y46) >>= fun v29 => ((pure v3 >>= fun x69 => pure (D.int 2) >>= fun y70 => Op.eq x69 y70 >>= truthB) >>= fun t => if t then (pure a_text >>= fun x71 => pure v29 >>= fun y72 => Op.add x71 y72) else ((((pure a_box >>= fun x73 => (pure (D.int 2) >>= fun x74 => pure [] >>= fun x74s => pure (x74 :: x74s)) >>= fun x73s => pure (x73 :: x73s)) >>= m__law_take) >>= fun x75 => pure (D.int 0) >>= fun y76 => Op.eq x75 y76 >>= truthB) >>= fun t => if t then (pure (D.str (" " : Str)) >>= fun d => Me.isStr d >>= fun _ => ((((pure a_text >>= fun x78 => pure [] >>= fun x78s => pure (x78 :: x78s)) >>= Op.mkL) >>= fun x82 => (((pure (D.str ("*" : Str)) >>= fun x79 => pure [] >>= fun x79s => pure (x79 :: x79s)) >>= Op.mkL) >>= fun x80 => pure (D.int 4) >>= fun y81 => Op.mul x80 y81) >>= fun y83 => Op.add x82 y83) >>= fun x77 => pure [] >>= fun x77s => pure (x77 :: x77s)) >>= fun ds => Me.join d ds) else (pure (D.str (" || " : Str)) >>= fun d => Me.isStr d >>= fun _ => ((((pure a_text >>= fun x85 => pure [] >>= fun x85s => pure (x85 :: x85s)) >>= Op.mkL) >>= fun x89 => (((pure (D.str ("=1.0.0" : Str)) >>= fun x86 => pure [] >>= fun x86s => pure (x86 :: x86s)) >>= Op.mkL) >>= fun x87 => pure (D.int 4) >>= fun y88 => Op.mul x87 y88) >>= fun y90 => Op.add x89 y90) >>= fun x84 => pure [] >>= fun x84s => pure (x84 :: x84s)) >>= fun ds => Me.join d ds))))))
  | _ => M.bad
theorem b__law_bent {P : Program} {w : World} {K : PySem.W.Frag} {mg : Str → Option Value} {base : Heap} (G : Fx K mg) (D__law_take : DF P w K mg base 3 "_law_take" s__law_take ["box", "many"] m__law_take) (D__law_spoiled : DF P w K mg base 4 "_law_spoiled" s__law_spoiled ["box", "text"] m__law_spoiled) {f : Addr} {cdv : Value} {A : Around} {outer : List Env} {s : Shared} {H : Hp} {E : XK} (hr : Room 4 (A.deeper (envOfC "_law_bent" (defScope s__law_bent) s.heap.objs.size f cdv))) (a_box a_text : D) :
  JC (cxOf (L2.CX P w) P w K mg base ["box", "text", "way", "more"] "_law_bent" (defScope s__law_bent) f cdv A outer s H E) (fun c d _ H2 => E c d H2) (List.replicate 4 none) [some (.val a_box), some (.val a_text), none, none] (defBody s__law_bent) U0 (m__law_bent [a_box, a_text]) .fin := by
  have tk : Takes (cxOf (L2.CX P w) P w K mg base ["box", "text", "way", "more"] "_law_bent" (defScope s__law_bent) f cdv A outer s H E) (fun c d _ H2 => E c d H2) := takes_of rfl rfl rfl rfl
  exact (jc_set 2 (by first | exact weak_none rfl | exact Weak.rfl) sc__law_bent.nd (je_call D__law_take (hr.mono (by omega)) tk rfl (ja_cons (je_name 0) (ja_cons je_int ja_nil))) (fun v3 => (jc_if (by first | exact weak_none rfl | exact Weak.rfl) (jt_cmp (od_ltG hr.units) nx_ltG (JE.b (je_name 2)) (JE.b je_int) rfl) (jc_retF (by first | exact weak_none rfl | exact Weak.rfl) (je_call D__law_spoiled (hr.mono (by omega)) tk rfl (ja_cons (je_name 0) (ja_cons (je_name 1) ja_nil)))) (jc_end (jc_set 3 (by first | exact weak_none rfl | exact Weak.rfl) sc__law_bent.nd (je_ix (JE.b (je_lst (ja_cons je_str (ja_cons je_str (ja_cons je_str (ja_cons je_str (ja_cons je_str (ja_cons je_str (ja_cons je_str (ja_cons je_str (ja_cons je_str (ja_cons je_str (ja_cons je_str (ja_cons je_str (ja_cons je_str ja_nil))))))))))))))) (JE.b (je_call D__law_take (hr.mono (by omega)) tk rfl (ja_cons (je_name 0) (ja_cons je_int ja_nil)))) (fun _ _ => rfl)) (fun v29 => (jc_retF (by first | exact weak_none rfl | exact Weak.rfl) (je_if (jt_cmp (od_eq hr.units) nx_eq (JE.b (je_name 2)) (JE.b je_int) rfl) (je_op od_add nx_add (JE.b (je_name 1)) (JE.b (je_name 3))) (je_if (jt_cmp (od_eq hr.units) nx_eq (JE.b (je_call D__law_take (hr.mono (by omega)) tk rfl (ja_cons (je_name 0) (ja_cons je_int ja_nil)))) (JE.b je_int) rfl) (je_strM PySem.F.slot_str_join PySem.F.type_str_join md_join nx_join (JE.b je_str) (jab_cons (JE.b (je_op od_add nx_add (JE.b (je_lst (ja_cons (je_name 1) ja_nil))) (JE.b (je_op od_mul nx_mul (JE.b (je_lst (ja_cons je_str ja_nil))) (JE.b je_int))))) jab_nil)) (je_strM PySem.F.slot_str_join PySem.F.type_str_join md_join nx_join (JE.b je_str) (jab_cons (JE.b (je_op od_add nx_add (JE.b (je_lst (ja_cons (je_name 1) ja_nil))) (JE.b (je_op od_mul nx_mul (JE.b (je_lst (ja_cons je_str ja_nil))) (JE.b je_int))))) jab_nil)))))))))))
theorem d__law_bent {P : Program} {w : World} {K : PySem.W.Frag} {mg : Str → Option Value} {base : Heap} (G : Fx K mg) (D__law_take : DF P w K mg base 3 "_law_take" s__law_take ["box", "many"] m__law_take) (D__law_spoiled : DF P w K mg base 4 "_law_spoiled" s__law_spoiled ["box", "text"] m__law_spoiled) {f : Addr} {fd : FuncData} (F : FunD K "_law_bent" "_law_bent" (defArgs s__law_bent) (defBody s__law_bent) (defScope s__law_bent) [] [] f fd) (hx : mg "_law_bent" = some (.ref f)) : DF P w K mg base 5 "_law_bent" s__law_bent ["box", "text"] m__law_bent :=
  DF.of F hx sc__law_bent (fun _ _ _ _ _ _ us h => match us, h with | [_, _], _ => rfl) (fun ds s h => match ds, h with | [], _ => rfl | [_], _ => rfl | [_, _], h => absurd rfl h | _ :: _ :: _ :: _, _ => rfl) fun cdv A outer s H E ds hl hr => match ds, hl with | [a_box, a_text], _ => b__law_bent G D__law_take D__law_spoiled hr a_box a_text
/-! parts_in -/
abbrev s_parts_in : Stmt := top 19
theorem sc_parts_in : FnScope ["value", "head", "minus", "tail", "numbers", "words", "number", "word"] ["value"] (defScope s_parts_in) := ⟨rfl, rfl, rfl, by decide +kernel, rfl, by decide +kernel, by decide +kernel⟩
def m_parts_in : List D → M D
  | [a_value] => ((((pure a_value >>= Bi.isi "str") >>= truthB) >>= fun b => pure (!b)) >>= fun b => if b then pure D.non else ((pure a_value >>= fun d => Me.isStr d >>= fun _ => (pure (D.str ("-" : Str)) >>= fun x1 => pure [] >>= fun x1s => pure (x1 :: x1s)) >>= fun ds => Me.partition d ds) >>= fun x43 => un3 x43 >>= fun b2 => ((pure b2.1 >>= fun d => Me.isStr d >>= fun _ => (pure (D.str ("." : Str)) >>= fun x3 => pure [] >>= fun x3s => pure (x3 :: x3s)) >>= fun ds => Me.split d ds) >>= fun v7 => ((pure b2.2.1 >>= fun x4 => pure (D.str ("" : Str)) >>= fun y5 => Op.ne x4 y5 >>= truthB) >>= fun t => if t then (pure b2.2.2 >>= fun d => Me.isStr d >>= fun _ => (pure (D.str ("." : Str)) >>= fun x6 => pure [] >>= fun x6s => pure (x6 :: x6s)) >>= fun ds => Me.split d ds) else (pure [] >>= Op.mkL)) >>= fun v8 => (((((pure v7 >>= fun x9 => pure [] >>= fun x9s => pure (x9 :: x9s)) >>= Bi.len) >>= fun x11 => ((pure c_PARTS >>= fun x10 => pure [] >>= fun x10s => pure (x10 :: x10s)) >>= Bi.len) >>= fun y12 => Op.ne x11 y12 >>= truthB) >>= fun c => if c then pure true else ((((((pure v7 >>= itemsOf) >>= comp fun x17 => (fun d => pure d) x17 >>= fun b14 => pure true >>= fun b => if b then ((pure b14 >>= fun x15 => (pure c_MOST_DIGITS >>= fun x16 => pure [] >>= fun x16s => pure (x16 :: x16s)) >>= fun x15s => pure (x15 :: x15s)) >>= m_is_number) >>= fun y => pure (some y) else pure none) >>= fun x13 => pure [] >>= fun x13s => pure (x13 :: x13s)) >>= Bi.all) >>= truthB) >>= fun b => pure (!b))) >>= fun b => if b then pure D.non else (((((pure v8 >>= fun x18 => pure [] >>= fun x18s => pure (x18 :: x18s)) >>= Bi.len) >>= fun x19 => pure c_MOST_WORDS >>= fun y20 => Op.gtG x19 y20 >>= truthB) >>= fun c => if c then pure true else ((((((pure v8 >>= itemsOf) >>= comp fun x24 => (fun d => pure d) x24 >>= fun b22 => pure true >>= fun b => if b then ((pure b22 >>= fun x23 => pure [] >>= fun x23s => pure (x23 :: x23s)) >>= m_is_word) >>= fun y => pure (some y) else pure none) >>= fun x21 => pure [] >>= fun x21s => pure (x21 :: x21s)) >>= Bi.all) >>= truthB) >>= fun b => pure (!b))) >>= fun b => if b then pure D.non else ((((pure v7 >>= itemsOf) >>= comp fun x37 => (fun d => pure d) x37 >>= fun b35 => pure true >>= fun b => if b then ((pure b35 >>= fun x36 => pure [] >>= fun x36s => pure (x36 :: x36s)) >>= Bi.int) >>= fun y => pure (some y) else pure none) >>= fun x34 => Op.seqOf x34 >>= fun ax34 => (((((pure v8 >>= itemsOf) >>= comp fun x42 => (fun d => pure d) x42 >>= fun b40 => pure true >>= fun b => if b then ((pure b40 >>= fun x41 => pure [] >>= fun x41s => pure (x41 :: x41s)) >>= m_word_of) >>= fun y => pure (some y) else pure none) >>= fun x39 => pure [] >>= fun x39s => pure (x39 :: x39s)) >>= Bi.tuple) >>= fun x38 => pure [] >>= fun x38s => pure (x38 :: x38s)) >>= fun x34s => pure (ax34 ++ x34s)) >>= Op.mkT))))))
  | _ => M.bad
theorem b_parts_in {P : Program} {w : World} {K : PySem.W.Frag} {mg : Str → Option Value} {base : Heap} (G : Fx K mg) (D_is_number : DF P w K mg base 4 "is_number" s_is_number ["text", "most"] m_is_number) (D_is_word : DF P w K mg base 5 "is_word" s_is_word ["text"] m_is_word) (D_word_of : DF P w K mg base 4 "word_of" s_word_of ["text"] m_word_of) {f : Addr} {cdv : Value} {A : Around} {outer : List Env} {s : Shared} {H : Hp} {E : XK} (hr : Room 5 (A.deeper (envOfC "parts_in" (defScope s_parts_in) s.heap.objs.size f cdv))) (a_value : D) :
  JC (cxOf (L2.CX P w) P w K mg base ["value", "head", "minus", "tail", "numbers", "words", "number", "word"] "parts_in" (defScope s_parts_in) f cdv A outer s H E) (fun c d _ H2 => E c d H2) (List.replicate 8 none) [some (.val a_value), none, none, none, none, none, none, none] (defBody s_parts_in) U0 (m_parts_in [a_value]) .fin := by
  have tk : Takes (cxOf (L2.CX P w) P w K mg base ["value", "head", "minus", "tail", "numbers", "words", "number", "word"] "parts_in" (defScope s_parts_in) f cdv A outer s H E) (fun c d _ H2 => E c d H2) := takes_of rfl rfl rfl rfl
  exact (jc_if (by first | exact weak_none rfl | exact Weak.rfl) (jt_not (jt_bool (je_isi (T := "str") (by decide) rfl G.f_isinstance rfl G.f_str (by decide +kernel) (JE.b (je_name 0))))) (jc_retF (by first | exact weak_none rfl | exact Weak.rfl) je_non) (jc_end (jc_tup (by first | exact weak_none rfl | exact Weak.rfl) (je_strM PySem.F.slot_str_partition PySem.F.type_str_partition md_partition nx_partition (JE.b (je_name 0)) (jab_cons (JE.b je_str) jab_nil)) (pg_tup rfl (pgs_cons (pg_name (i := 1) sc_parts_in.nd rfl (by first | exact Or.inl rfl | exact Or.inr rfl)) (pgs_cons (pg_name (i := 2) sc_parts_in.nd rfl (by first | exact Or.inl rfl | exact Or.inr rfl)) (pgs_cons (pg_name (i := 3) sc_parts_in.nd rfl (by first | exact Or.inl rfl | exact Or.inr rfl)) pgs_nil)))) (go_tup3 _ 1 2 3) (fun b2 => (jc_par (ka := .v) (kb := .v) 4 5 (by first | exact weak_none rfl | exact Weak.rfl) rfl sc_parts_in.nd (JE.k (je_strM PySem.F.slot_str_split PySem.F.type_str_split md_split nx_split (JE.b (je_name 1)) (jab_cons (JE.b je_str) jab_nil))) (JE.k (je_if (jt_cmp (od_ne hr.units) nx_ne (JE.b (je_name 2)) (JE.b je_str) rfl) (je_strM PySem.F.slot_str_split PySem.F.type_str_split md_split nx_split (JE.b (je_name 3)) (jab_cons (JE.b je_str) jab_nil)) (je_lst ja_nil))) (fun v7 v8 => (jc_if (by first | exact weak_none rfl | exact Weak.rfl) (jt_w (jw_or (jt_cmp (od_ne hr.units) nx_ne (JE.b (je_callB cd_len nx_len rfl G.f_len (by decide +kernel) (jab_cons (JE.b (je_name 4)) jab_nil))) (JE.b (je_callB cd_len nx_len rfl G.f_len (by decide +kernel) (jab_cons (JE.b (je_gD G.g_PARTS.d rfl)) jab_nil))) rfl) (jw_or1 (jt_not (jt_bool (je_callB (cd_all rfl) nx_all rfl G.f_all (by decide +kernel) (jab_cons (JE.b (JF.je (jf_lc (own := [("number", 6)]) rfl sc_parts_in.nd (jib_any (JE.b (je_name 4))) (blk_of (by kernel_rfl)) (fun _ _ _ _ _ => (pg_name (i := 6) sc_parts_in.nd rfl (by first | exact Or.inl rfl | exact Or.inr rfl))) (go_name _ 6) (by simp) (fun _ _ _ _ _ b14 => tY) (fun _ _ _ _ _ b14 => (je_call D_is_number (hr.mono (by omega)) takes_none5 rfl (ja_cons (je_name 6) (ja_cons (je_gD G.g_MOST_DIGITS rfl) ja_nil))))))) jab_nil))))))) (jc_retF (by first | exact weak_none rfl | exact Weak.rfl) je_non) (jc_end (jc_if (by first | exact weak_none rfl | exact Weak.rfl) (jt_w (jw_or (jt_cmp (od_gtG hr.units) nx_gtG (JE.b (je_callB cd_len nx_len rfl G.f_len (by decide +kernel) (jab_cons (JE.b (je_name 5)) jab_nil))) (JE.b (je_gD G.g_MOST_WORDS rfl)) rfl) (jw_or1 (jt_not (jt_bool (je_callB (cd_all rfl) nx_all rfl G.f_all (by decide +kernel) (jab_cons (JE.b (JF.je (jf_lc (own := [("word", 7)]) rfl sc_parts_in.nd (jib_any (JE.b (je_name 5))) (blk_of (by kernel_rfl)) (fun _ _ _ _ _ => (pg_name (i := 7) sc_parts_in.nd rfl (by first | exact Or.inl rfl | exact Or.inr rfl))) (go_name _ 7) (by simp) (fun _ _ _ _ _ b22 => tY) (fun _ _ _ _ _ b22 => (je_call D_is_word (hr.mono (by omega)) takes_none5 rfl (ja_cons (je_name 7) ja_nil)))))) jab_nil))))))) (jc_retF (by first | exact weak_none rfl | exact Weak.rfl) je_non) (jc_end (jc_retF (by first | exact weak_none rfl | exact Weak.rfl) (je_tup (ja_star (JE.b (JF.je (jf_lc (own := [("number", 6)]) rfl sc_parts_in.nd (jib_any (JE.b (je_name 4))) (blk_of (by kernel_rfl)) (fun _ _ _ _ _ => (pg_name (i := 6) sc_parts_in.nd rfl (by first | exact Or.inl rfl | exact Or.inr rfl))) (go_name _ 6) (by simp) (fun _ _ _ _ _ b35 => tY) (fun _ _ _ _ _ b35 => (je_callTy cd_int nx_int rfl G.f_int (by decide +kernel) (jab_cons (JE.b (je_name 6)) jab_nil)))))) (ja_cons (je_callTy cd_tuple nx_tuple rfl G.f_tuple (by decide +kernel) (jab_cons (JE.b (JF.je (jf_lc (own := [("word", 7)]) rfl sc_parts_in.nd (jib_any (JE.b (je_name 5))) (blk_of (by kernel_rfl)) (fun _ _ _ _ _ => (pg_name (i := 7) sc_parts_in.nd rfl (by first | exact Or.inl rfl | exact Or.inr rfl))) (go_name _ 7) (by simp) (fun _ _ _ _ _ b40 => tY) (fun _ _ _ _ _ b40 => (je_call D_word_of (hr.mono (by omega)) takes_none5 rfl (ja_cons (je_name 7) ja_nil)))))) jab_nil)) ja_nil))))))))) rfl)))))
theorem d_parts_in {P : Program} {w : World} {K : PySem.W.Frag} {mg : Str → Option Value} {base : Heap} (G : Fx K mg) (D_is_number : DF P w K mg base 4 "is_number" s_is_number ["text", "most"] m_is_number) (D_is_word : DF P w K mg base 5 "is_word" s_is_word ["text"] m_is_word) (D_word_of : DF P w K mg base 4 "word_of" s_word_of ["text"] m_word_of) {f : Addr} {fd : FuncData} (F : FunD K "parts_in" "parts_in" (defArgs s_parts_in) (defBody s_parts_in) (defScope s_parts_in) [] [] f fd) (hx : mg "parts_in" = some (.ref f)) : DF P w K mg base 6 "parts_in" s_parts_in ["value"] m_parts_in :=
  DF.of F hx sc_parts_in (fun _ _ _ _ _ _ us h => match us, h with | [_], _ => rfl) (fun ds s h => match ds, h with | [], _ => rfl | [_], h => absurd rfl h | _ :: _ :: _, _ => rfl) fun cdv A outer s H E ds hl hr => match ds, hl with | [a_value], _ => b_parts_in G D_is_number D_is_word D_word_of hr a_value
/-! _law_bound -/
abbrev s__law_bound : Stmt := top 58
theorem sc__law_bound : FnScope ["text", "sign", "parts", "here"] ["text"] (defScope s__law_bound) := ⟨rfl, rfl, rfl, by decide +kernel, rfl, by decide +kernel, by decide +kernel⟩
def m__law_bound : List D → M D
  | [a_text] => ((pure a_text >>= fun x1 => pure (D.str ("*" : Str)) >>= fun y2 => Op.eq x1 y2 >>= truthB) >>= fun b => if b then ((pure (D.int 0) >>= fun x7 => ((pure (D.int 10) >>= fun x9 => pure (D.int 12) >>= fun y10 => Op.pow x9 y10) >>= fun x8 => pure [] >>= fun x8s => pure (x8 :: x8s)) >>= fun x7s => pure (x7 :: x7s)) >>= Op.mkT) else ((((pure a_text >>= fun x23 => pure none >>= fun lx23 => (pure (D.int 2) >>= fun x22 => Op.asInt x22 >>= fun i => pure (some i)) >>= fun hx23 => Op.slc x23 lx23 hx23) >>= fun x26 => ((pure (D.str ("<=" : Str)) >>= fun x24 => (pure (D.str (">=" : Str)) >>= fun x25 => pure [] >>= fun x25s => pure (x25 :: x25s)) >>= fun x24s => pure (x24 :: x24s)) >>= Op.mkL) >>= fun y27 => Op.isIn x26 y27 >>= truthB) >>= fun t => if t then (pure a_text >>= fun x29 => pure none >>= fun lx29 => (pure (D.int 2) >>= fun x28 => Op.asInt x28 >>= fun i => pure (some i)) >>= fun hx29 => Op.slc x29 lx29 hx29) else (pure a_text >>= fun x31 => pure none >>= fun lx31 => (pure (D.int 1) >>= fun x30 => Op.asInt x30 >>= fun i => pure (some i)) >>= fun hx31 => Op.slc x31 lx31 hx31)) >>= fun v21 => ((pure v21 >>= fun x39 => ((pure (D.str ("<=" : Str)) >>= fun x32 => (pure (D.str (">=" : Str)) >>= fun x33 => (pure (D.str ("<" : Str)) >>= fun x34 => (pure (D.str (">" : Str)) >>= fun x35 => (pure (D.str ("=" : Str)) >>= fun x36 => (pure (D.str ("~" : Str)) >>= fun x37 => (pure (D.str ("^" : Str)) >>= fun x38 => pure [] >>= fun x38s => pure (x38 :: x38s)) >>= fun x37s => pure (x37 :: x37s)) >>= fun x36s => pure (x36 :: x36s)) >>= fun x35s => pure (x35 :: x35s)) >>= fun x34s => pure (x34 :: x34s)) >>= fun x33s => pure (x33 :: x33s)) >>= fun x32s => pure (x32 :: x32s)) >>= Op.mkL) >>= fun y40 => Op.notIn x39 y40 >>= truthB) >>= fun b => if b then pure D.non else ((((pure a_text >>= fun x49 => (((pure v21 >>= fun x47 => pure [] >>= fun x47s => pure (x47 :: x47s)) >>= Bi.len) >>= fun x48 => Op.asInt x48 >>= fun i => pure (some i)) >>= fun lx49 => pure none >>= fun hx49 => Op.slc x49 lx49 hx49) >>= fun x46 => pure [] >>= fun x46s => pure (x46 :: x46s)) >>= m__law_parts) >>= fun v45 => (((pure v45 >>= fun d => pure (Op.isNon d)) >>= fun c => if c then pure true else ((pure v45 >>= fun x50 => pure (D.int 3) >>= fun y51 => Op.idx x50 y51) >>= fun x52 => (pure [] >>= Op.mkT) >>= fun y53 => Op.ne x52 y53 >>= truthB)) >>= fun b => if b then pure D.non else (((pure v45 >>= fun x56 => pure [] >>= fun x56s => pure (x56 :: x56s)) >>= m__law_whole) >>= fun v55 => (((pure v21 >>= fun x57 => pure (D.str ("~" : Str)) >>= fun y58 => Op.eq x57 y58 >>= truthB) >>= fun c => if c then pure true else ((pure v21 >>= fun x59 => pure (D.str ("^" : Str)) >>= fun y60 => Op.eq x59 y60 >>= truthB) >>= fun c => if c then (((pure v45 >>= fun x61 => pure (D.int 0) >>= fun y62 => Op.idx x61 y62) >>= fun x63 => pure (D.int 0) >>= fun y64 => Op.eq x63 y64 >>= truthB) >>= fun c => if c then ((pure v45 >>= fun x65 => pure (D.int 1) >>= fun y66 => Op.idx x65 y66) >>= fun x67 => pure (D.int 0) >>= fun y68 => Op.gtG x67 y68 >>= truthB) else pure false) else pure false)) >>= fun b => if b then ((pure v55 >>= fun x81 => (((((((pure v45 >>= fun x85 => pure (D.int 0) >>= fun y86 => Op.idx x85 y86) >>= fun x84 => ((pure v45 >>= fun x88 => pure (D.int 1) >>= fun y89 => Op.idx x88 y89) >>= fun x87 => (pure (D.int 0) >>= fun x90 => pure [] >>= fun x90s => pure (x90 :: x90s)) >>= fun x87s => pure (x87 :: x87s)) >>= fun x84s => pure (x84 :: x84s)) >>= Op.mkT) >>= fun x83 => pure [] >>= fun x83s => pure (x83 :: x83s)) >>= m__law_whole) >>= fun x91 => pure (D.int 10000) >>= fun y92 => Op.add x91 y92) >>= fun x82 => pure [] >>= fun x82s => pure (x82 :: x82s)) >>= fun x81s => pure (x81 :: x81s)) >>= Op.mkT) else ((pure v21 >>= fun x93 => pure (D.str ("^" : Str)) >>= fun y94 => Op.eq x93 y94 >>= truthB) >>= fun b => if b then ((pure v55 >>= fun x111 => ((((pure v45 >>= fun x113 => pure (D.int 0) >>= fun y114 => Op.idx x113 y114) >>= fun x115 => pure (D.int 0) >>= fun y116 => Op.gtG x115 y116 >>= truthB) >>= fun t => if t then ((((((pure v45 >>= fun x119 => pure (D.int 0) >>= fun y120 => Op.idx x119 y120) >>= fun x118 => (pure (D.int 0) >>= fun x121 => (pure (D.int 0) >>= fun x122 => pure [] >>= fun x122s => pure (x122 :: x122s)) >>= fun x121s => pure (x121 :: x121s)) >>= fun x118s => pure (x118 :: x118s)) >>= Op.mkT) >>= fun x117 => pure [] >>= fun x117s => pure (x117 :: x117s)) >>= m__law_whole) >>= fun x123 => pure (D.int 100000000) >>= fun y124 => Op.add x123 y124) else (pure v55 >>= fun x125 => pure (D.int 1) >>= fun y126 => Op.add x125 y126)) >>= fun x112 => pure [] >>= fun x112s => pure (x112 :: x112s)) >>= fun x111s => pure (x111 :: x111s)) >>= Op.mkT) else (((pure (D.str ("=" : Str)) >>= fun x187 => ((pure v55 >>= fun x183 => ((pure v55 >>= fun x185 => pure (D.int 1) >>= fun y186 => Op.add x185 y186) >>= fun x184 => pure [] >>= fun x184s => pure (x184 :: x184s)) >>= fun x183s => pure (x183 :: x183s)) >>= Op.mkT) >>= fun y188 => (pure (D.str ("<" : Str)) >>= fun x181 => ((pure (D.int 0) >>= fun x179 => (pure v55 >>= fun x180 => pure [] >>= fun x180s => pure (x180 :: x180s)) >>= fun x179s => pure (x179 :: x179s)) >>= Op.mkT) >>= fun y182 => (pure (D.str ("<=" : Str)) >>= fun x177 => ((pure (D.int 0) >>= fun x173 => ((pure v55 >>= fun x175 => pure (D.int 1) >>= fun y176 => Op.add x175 y176) >>= fun x174 => pure [] >>= fun x174s => pure (x174 :: x174s)) >>= fun x173s => pure (x173 :: x173s)) >>= Op.mkT) >>= fun y178 => (pure (D.str (">" : Str)) >>= fun x171 => (((pure v55 >>= fun x166 => pure (D.int 1) >>= fun y167 => Op.add x166 y167) >>= fun x165 => ((pure (D.int 10) >>= fun x169 => pure (D.int 12) >>= fun y170 => Op.pow x169 y170) >>= fun x168 => pure [] >>= fun x168s => pure (x168 :: x168s)) >>= fun x165s => pure (x165 :: x165s)) >>= Op.mkT) >>= fun y172 => (pure (D.str (">=" : Str)) >>= fun x163 => ((pure v55 >>= fun x159 => ((pure (D.int 10) >>= fun x161 => pure (D.int 12) >>= fun y162 => Op.pow x161 y162) >>= fun x160 => pure [] >>= fun x160s => pure (x160 :: x160s)) >>= fun x159s => pure (x159 :: x159s)) >>= Op.mkT) >>= fun y164 => pure [] >>= fun r => match kD x163 with | some k => pure ((k, y164) :: r) | none => M.bad) >>= fun r => match kD x171 with | some k => pure ((k, y172) :: r) | none => M.bad) >>= fun r => match kD x177 with | some k => pure ((k, y178) :: r) | none => M.bad) >>= fun r => match kD x181 with | some k => pure ((k, y182) :: r) | none => M.bad) >>= fun r => match kD x187 with | some k => pure ((k, y188) :: r) | none => M.bad) >>= fun ps => if ps.length ≤ 15 then pure (D.dct (mergeKD [] ps)) else M.bad) >>= fun x189 => pure v21 >>= fun y190 => Op.dget x189 y190)))))))))
  | _ => M.bad
theorem b__law_bound {P : Program} {w : World} {K : PySem.W.Frag} {mg : Str → Option Value} {base : Heap} (G : Fx K mg) (D__law_parts : DF P w K mg base 5 "_law_parts" s__law_parts ["text"] m__law_parts) (D__law_whole : DF P w K mg base 3 "_law_whole" s__law_whole ["numbers"] m__law_whole) {f : Addr} {cdv : Value} {A : Around} {outer : List Env} {s : Shared} {H : Hp} {E : XK} (hr : Room 5 (A.deeper (envOfC "_law_bound" (defScope s__law_bound) s.heap.objs.size f cdv))) (a_text : D) :
  JC (cxOf (L2.CX P w) P w K mg base ["text", "sign", "parts", "here"] "_law_bound" (defScope s__law_bound) f cdv A outer s H E) (fun c d _ H2 => E c d H2) (List.replicate 4 none) [some (.val a_text), none, none, none] (defBody s__law_bound) U0 (m__law_bound [a_text]) .fin := by
  have tk : Takes (cxOf (L2.CX P w) P w K mg base ["text", "sign", "parts", "here"] "_law_bound" (defScope s__law_bound) f cdv A outer s H E) (fun c d _ H2 => E c d H2) := takes_of rfl rfl rfl rfl
  exact (jc_if (by first | exact weak_none rfl | exact Weak.rfl) (jt_cmp (od_eq hr.units) nx_eq (JE.b (je_name 0)) (JE.b je_str) rfl) (jc_retF (by first | exact weak_none rfl | exact Weak.rfl) (je_tup (ja_cons je_int (ja_cons (je_op od_pow nx_pow (JE.b je_int) (JE.b je_int)) ja_nil)))) (jc_end (jc_set 1 (by first | exact weak_none rfl | exact Weak.rfl) sc__law_bound.nd (je_if (jt_cmp (od_in hr.units) nx_isIn (JE.b (je_slice (JE.b (je_name 0)) jo_none (jo_some je_int))) (JE.b (je_lst (ja_cons je_str (ja_cons je_str ja_nil)))) rfl) (je_slice (JE.b (je_name 0)) jo_none (jo_some je_int)) (je_slice (JE.b (je_name 0)) jo_none (jo_some je_int))) (fun v21 => (jc_if (by first | exact weak_none rfl | exact Weak.rfl) (jt_cmp (od_notIn hr.units) nx_notIn (JE.b (je_name 1)) (JE.b (je_lst (ja_cons je_str (ja_cons je_str (ja_cons je_str (ja_cons je_str (ja_cons je_str (ja_cons je_str (ja_cons je_str ja_nil))))))))) rfl) (jc_retF (by first | exact weak_none rfl | exact Weak.rfl) je_non) (jc_end (jc_set 2 (by first | exact weak_none rfl | exact Weak.rfl) sc__law_bound.nd (je_call D__law_parts (hr.mono (by omega)) tk rfl (ja_cons (je_slice (JE.b (je_name 0)) (jo_some (je_callB cd_len nx_len rfl G.f_len (by decide +kernel) (jab_cons (JE.b (je_name 1)) jab_nil))) jo_none) ja_nil)) (fun v45 => (jc_if (by first | exact weak_none rfl | exact Weak.rfl) (jt_w (jw_or (jt_isNone (JE.b (je_name 2))) (jw_or1 (jt_cmp (od_ne hr.units) nx_ne (JE.b (je_ix (JE.b (je_name 2)) (JE.b je_int) (fun _ _ => rfl))) (JE.b (je_tup ja_nil)) rfl)))) (jc_retF (by first | exact weak_none rfl | exact Weak.rfl) je_non) (jc_end (jc_set 3 (by first | exact weak_none rfl | exact Weak.rfl) sc__law_bound.nd (je_call D__law_whole (hr.mono (by omega)) tk rfl (ja_cons (je_name 2) ja_nil)) (fun v55 => (jc_if (by first | exact weak_none rfl | exact Weak.rfl) (jt_w (jw_or (jt_cmp (od_eq hr.units) nx_eq (JE.b (je_name 1)) (JE.b je_str) rfl) (jw_or1 (jt_w (jw_and (jt_cmp (od_eq hr.units) nx_eq (JE.b (je_name 1)) (JE.b je_str) rfl) (jw_and (jt_cmp (od_eq hr.units) nx_eq (JE.b (je_ix (JE.b (je_name 2)) (JE.b je_int) (fun _ _ => rfl))) (JE.b je_int) rfl) (jw_and1 (jt_cmp (od_gtG hr.units) nx_gtG (JE.b (je_ix (JE.b (je_name 2)) (JE.b je_int) (fun _ _ => rfl))) (JE.b je_int) rfl)))))))) (jc_retF (by first | exact weak_none rfl | exact Weak.rfl) (je_tup (ja_cons (je_name 3) (ja_cons (je_op od_add nx_add (JE.b (je_call D__law_whole (hr.mono (by omega)) tk rfl (ja_cons (je_tup (ja_cons (je_ix (JE.b (je_name 2)) (JE.b je_int) (fun _ _ => rfl)) (ja_cons (je_ix (JE.b (je_name 2)) (JE.b je_int) (fun _ _ => rfl)) (ja_cons je_int ja_nil)))) ja_nil))) (JE.b je_int)) ja_nil)))) (jc_end (jc_if (by first | exact weak_none rfl | exact Weak.rfl) (jt_cmp (od_eq hr.units) nx_eq (JE.b (je_name 1)) (JE.b je_str) rfl) (jc_retF (by first | exact weak_none rfl | exact Weak.rfl) (je_tup (ja_cons (je_name 3) (ja_cons (je_if (jt_cmp (od_gtG hr.units) nx_gtG (JE.b (je_ix (JE.b (je_name 2)) (JE.b je_int) (fun _ _ => rfl))) (JE.b je_int) rfl) (je_op od_add nx_add (JE.b (je_call D__law_whole (hr.mono (by omega)) tk rfl (ja_cons (je_tup (ja_cons (je_ix (JE.b (je_name 2)) (JE.b je_int) (fun _ _ => rfl)) (ja_cons je_int (ja_cons je_int ja_nil)))) ja_nil))) (JE.b je_int)) (je_op od_add nx_add (JE.b (je_name 3)) (JE.b je_int))) ja_nil)))) (jc_end (jc_retF (by first | exact weak_none rfl | exact Weak.rfl) (je_dget hr.units (JE.b (JF.je (jf_disp (jp_cons je_str (je_tup (ja_cons (je_name 3) (ja_cons (je_op od_add nx_add (JE.b (je_name 3)) (JE.b je_int)) ja_nil))) (jp_cons je_str (je_tup (ja_cons je_int (ja_cons (je_name 3) ja_nil))) (jp_cons je_str (je_tup (ja_cons je_int (ja_cons (je_op od_add nx_add (JE.b (je_name 3)) (JE.b je_int)) ja_nil))) (jp_cons je_str (je_tup (ja_cons (je_op od_add nx_add (JE.b (je_name 3)) (JE.b je_int)) (ja_cons (je_op od_pow nx_pow (JE.b je_int) (JE.b je_int)) ja_nil))) (jp_cons je_str (je_tup (ja_cons (je_name 3) (ja_cons (je_op od_pow nx_pow (JE.b je_int) (JE.b je_int)) ja_nil))) jp_nil)))))))) (je_name 1) (fun _ _ => rfl)))))))))))))))))))
theorem d__law_bound {P : Program} {w : World} {K : PySem.W.Frag} {mg : Str → Option Value} {base : Heap} (G : Fx K mg) (D__law_parts : DF P w K mg base 5 "_law_parts" s__law_parts ["text"] m__law_parts) (D__law_whole : DF P w K mg base 3 "_law_whole" s__law_whole ["numbers"] m__law_whole) {f : Addr} {fd : FuncData} (F : FunD K "_law_bound" "_law_bound" (defArgs s__law_bound) (defBody s__law_bound) (defScope s__law_bound) [] [] f fd) (hx : mg "_law_bound" = some (.ref f)) : DF P w K mg base 6 "_law_bound" s__law_bound ["text"] m__law_bound :=
  DF.of F hx sc__law_bound (fun _ _ _ _ _ _ us h => match us, h with | [_], _ => rfl) (fun ds s h => match ds, h with | [], _ => rfl | [_], h => absurd rfl h | _ :: _ :: _, _ => rfl) fun cdv A outer s H E ds hl hr => match ds, hl with | [a_text], _ => b__law_bound G D__law_parts D__law_whole hr a_text
/-! _law_range -/
abbrev s__law_range : Stmt := top 62
theorem sc__law_range : FnScope ["box", "parts", "k", "bounds", "j", "sign", "a", "b", "c"] ["box"] (defScope s__law_range) := ⟨rfl, rfl, rfl, by decide +kernel, rfl, by decide +kernel, by decide +kernel⟩
def m__law_range : List D → M D
  | [a_box] => ((pure [] >>= Op.mkL) >>= lstK fun w1 => (((((pure (D.int 1) >>= fun x13 => (((pure (D.int 0) >>= fun x4 => (pure (D.int 0) >>= fun x5 => (pure (D.int 1) >>= fun x6 => (pure (D.int 2) >>= fun x7 => (pure (D.int 3) >>= fun x8 => pure [] >>= fun x8s => pure (x8 :: x8s)) >>= fun x7s => pure (x7 :: x7s)) >>= fun x6s => pure (x6 :: x6s)) >>= fun x5s => pure (x5 :: x5s)) >>= fun x4s => pure (x4 :: x4s)) >>= Op.mkL) >>= fun x11 => ((pure a_box >>= fun x9 => (pure (D.int 5) >>= fun x10 => pure [] >>= fun x10s => pure (x10 :: x10s)) >>= fun x9s => pure (x9 :: x9s)) >>= m__law_take) >>= fun y12 => Op.idx x11 y12) >>= fun y14 => Op.add x13 y14) >>= fun x3 => pure [] >>= fun x3s => pure (x3 :: x3s)) >>= rng1) >>= fun xs => forN (fun x75 (t2 : List D) => (fun d => pure d) x75 >>= fun b15 => ((pure [] >>= Op.mkL) >>= lstK fun w16 => (((((pure (D.int 1) >>= fun x29 => (((pure (D.int 0) >>= fun x19 => (pure (D.int 0) >>= fun x20 => (pure (D.int 1) >>= fun x21 => (pure (D.int 1) >>= fun x22 => (pure (D.int 2) >>= fun x23 => (pure (D.int 3) >>= fun x24 => pure [] >>= fun x24s => pure (x24 :: x24s)) >>= fun x23s => pure (x23 :: x23s)) >>= fun x22s => pure (x22 :: x22s)) >>= fun x21s => pure (x21 :: x21s)) >>= fun x20s => pure (x20 :: x20s)) >>= fun x19s => pure (x19 :: x19s)) >>= Op.mkL) >>= fun x27 => ((pure a_box >>= fun x25 => (pure (D.int 6) >>= fun x26 => pure [] >>= fun x26s => pure (x26 :: x26s)) >>= fun x25s => pure (x25 :: x25s)) >>= m__law_take) >>= fun y28 => Op.idx x27 y28) >>= fun y30 => Op.add x29 y30) >>= fun x18 => pure [] >>= fun x18s => pure (x18 :: x18s)) >>= rng1) >>= fun xs => forN (fun x72 (t17 : List D) => (fun d => pure d) x72 >>= fun b31 => ((((pure (D.str ("=" : Str)) >>= fun x46 => (pure (D.str ("<" : Str)) >>= fun x47 => (pure (D.str ("<=" : Str)) >>= fun x48 => (pure (D.str (">" : Str)) >>= fun x49 => (pure (D.str (">=" : Str)) >>= fun x50 => (pure (D.str ("~" : Str)) >>= fun x51 => (pure (D.str ("^" : Str)) >>= fun x52 => (pure (D.str ("^" : Str)) >>= fun x53 => (pure (D.str ("*" : Str)) >>= fun x54 => pure [] >>= fun x54s => pure (x54 :: x54s)) >>= fun x53s => pure (x53 :: x53s)) >>= fun x52s => pure (x52 :: x52s)) >>= fun x51s => pure (x51 :: x51s)) >>= fun x50s => pure (x50 :: x50s)) >>= fun x49s => pure (x49 :: x49s)) >>= fun x48s => pure (x48 :: x48s)) >>= fun x47s => pure (x47 :: x47s)) >>= fun x46s => pure (x46 :: x46s)) >>= Op.mkL) >>= fun x57 => ((pure a_box >>= fun x55 => (pure (D.int 9) >>= fun x56 => pure [] >>= fun x56s => pure (x56 :: x56s)) >>= fun x55s => pure (x55 :: x55s)) >>= m__law_take) >>= fun y58 => Op.idx x57 y58) >>= fun v45 => (((pure a_box >>= fun x59 => pure [] >>= fun x59s => pure (x59 :: x59s)) >>= m__law_base) >>= fun x71 => un3 x71 >>= fun b60 => (((pure v45 >>= fun x61 => pure (D.str ("*" : Str)) >>= fun y62 => Op.eq x61 y62 >>= truthB) >>= fun t => if t then pure (D.str ("*" : Str)) else (pure v45 >>= fun x68 => ((((pure b60.1 >>= fun x64 => (pure b60.2.1 >>= fun x65 => (pure b60.2.2 >>= fun x66 => ((pure [] >>= Op.mkT) >>= fun x67 => pure [] >>= fun x67s => pure (x67 :: x67s)) >>= fun x66s => pure (x66 :: x66s)) >>= fun x65s => pure (x65 :: x65s)) >>= fun x64s => pure (x64 :: x64s)) >>= Op.mkT) >>= fun x63 => pure [] >>= fun x63s => pure (x63 :: x63s)) >>= m__law_text) >>= fun y69 => Op.add x68 y69)) >>= fun v70 => if Op.lenOk (List.length t17 + 1) then pure (t17 ++ [v70]) else M.bad)))) xs w16) >>= fun (t17 : List D) => ((pure (D.str (" " : Str)) >>= fun d => Me.isStr d >>= fun _ => (pure (D.lst t17) >>= fun x73 => pure [] >>= fun x73s => pure (x73 :: x73s)) >>= fun ds => Me.join d ds) >>= fun v74 => if Op.lenOk (List.length t2 + 1) then pure (t2 ++ [v74]) else M.bad)))) xs w1) >>= fun (t2 : List D) => (pure (D.str (" || " : Str)) >>= fun d => Me.isStr d >>= fun _ => (pure (D.lst t2) >>= fun x77 => pure [] >>= fun x77s => pure (x77 :: x77s)) >>= fun ds => Me.join d ds)))
  | _ => M.bad
theorem b__law_range {P : Program} {w : World} {K : PySem.W.Frag} {mg : Str → Option Value} {base : Heap} (G : Fx K mg) (D__law_take : DF P w K mg base 3 "_law_take" s__law_take ["box", "many"] m__law_take) (D__law_text : DF P w K mg base 3 "_law_text" s__law_text ["parts"] m__law_text) (D__law_base : DF P w K mg base 5 "_law_base" s__law_base ["box"] m__law_base) {f : Addr} {cdv : Value} {A : Around} {outer : List Env} {s : Shared} {H : Hp} {E : XK} (hr : Room 5 (A.deeper (envOfC "_law_range" (defScope s__law_range) s.heap.objs.size f cdv))) (a_box : D) :
  JC (cxOf (L2.CX P w) P w K mg base ["box", "parts", "k", "bounds", "j", "sign", "a", "b", "c"] "_law_range" (defScope s__law_range) f cdv A outer s H E) (fun c d _ H2 => E c d H2) (List.replicate 9 none) [some (.val a_box), none, none, none, none, none, none, none, none] (defBody s__law_range) U0 (m__law_range [a_box]) .fin := by
  have tk : Takes (cxOf (L2.CX P w) P w K mg base ["box", "parts", "k", "bounds", "j", "sign", "a", "b", "c"] "_law_range" (defScope s__law_range) f cdv A outer s H E) (fun c d _ H2 => E c d H2) := takes_of rfl rfl rfl rfl
  exact (jc_setOwn 1 (by first | exact weak_none rfl | exact Weak.rfl) sc__law_range.nd (jf_lst ja_nil) (jc_lstK (f := fun d => _) fun w1 => (jc_nx (j1_forN (eN := (fun (t2 : List D) => ([some (.val a_box), some (.own (.lst t2)), none, none, none, none, none, none, none] : EnvD))) (t0 := w1) (passes_of rfl) rfl (by first | exact weak_none rfl | exact Weak.rfl) (ji_range1 rfl G.f_range (jab_cons (JE.b (je_op od_add nx_add (JE.b je_int) (JE.b (je_ix (JE.b (je_lst (ja_cons je_int (ja_cons je_int (ja_cons je_int (ja_cons je_int (ja_cons je_int ja_nil))))))) (JE.b (je_call D__law_take (hr.mono (by omega)) tk rfl (ja_cons (je_name 0) (ja_cons je_int ja_nil)))) (fun _ _ => rfl))))) jab_nil)) (pg_name (i := 2) sc__law_range.nd rfl (by first | exact Or.inl rfl | exact Or.inr rfl)) (go_name _ 2) (by repeat (first | exact Weak.nil | refine Weak.same ?_ | refine Weak.none ?_)) (fun t2 b15 => (jc_setOwn 3 (by first | exact weak_none rfl | exact Weak.rfl) sc__law_range.nd (jf_lst ja_nil) (jc_lstK (f := fun d => _) fun w16 => (jc_nx (j1_forN (eN := (fun (t17 : List D) => ([some (.val a_box), some (.own (.lst t2)), some (.val b15), some (.own (.lst t17)), none, none, none, none, none] : EnvD))) (t0 := w16) (passes_of rfl) rfl (by first | exact weak_none rfl | exact Weak.rfl) (ji_range1 rfl G.f_range (jab_cons (JE.b (je_op od_add nx_add (JE.b je_int) (JE.b (je_ix (JE.b (je_lst (ja_cons je_int (ja_cons je_int (ja_cons je_int (ja_cons je_int (ja_cons je_int (ja_cons je_int ja_nil)))))))) (JE.b (je_call D__law_take (hr.mono (by omega)) tk rfl (ja_cons (je_name 0) (ja_cons je_int ja_nil)))) (fun _ _ => rfl))))) jab_nil)) (pg_name (i := 4) sc__law_range.nd rfl (by first | exact Or.inl rfl | exact Or.inr rfl)) (go_name _ 4) (by repeat (first | exact Weak.nil | refine Weak.same ?_ | refine Weak.none ?_)) (fun t17 b31 => (jc_set 5 (by first | exact weak_none rfl | exact Weak.rfl) sc__law_range.nd (je_ix (JE.b (je_lst (ja_cons je_str (ja_cons je_str (ja_cons je_str (ja_cons je_str (ja_cons je_str (ja_cons je_str (ja_cons je_str (ja_cons je_str (ja_cons je_str ja_nil))))))))))) (JE.b (je_call D__law_take (hr.mono (by omega)) tk rfl (ja_cons (je_name 0) (ja_cons je_int ja_nil)))) (fun _ _ => rfl)) (fun v45 => (jc_tup (by first | exact weak_none rfl | exact Weak.rfl) (je_call D__law_base (hr.mono (by omega)) tk rfl (ja_cons (je_name 0) ja_nil)) (pg_tup rfl (pgs_cons (pg_name (i := 6) sc__law_range.nd rfl (by first | exact Or.inl rfl | exact Or.inr rfl)) (pgs_cons (pg_name (i := 7) sc__law_range.nd rfl (by first | exact Or.inl rfl | exact Or.inr rfl)) (pgs_cons (pg_name (i := 8) sc__law_range.nd rfl (by first | exact Or.inl rfl | exact Or.inr rfl)) pgs_nil)))) (go_tup3 _ 6 7 8) (fun b60 => (jc_append 3 (by first | exact weak_none rfl | exact Weak.rfl) (je_if (jt_cmp (od_eq hr.units) nx_eq (JE.b (je_name 5)) (JE.b je_str) rfl) je_str (je_op od_add nx_add (JE.b (je_name 5)) (JE.b (je_call D__law_text (hr.mono (by omega)) tk rfl (ja_cons (je_tup (ja_cons (je_name 6) (ja_cons (je_name 7) (ja_cons (je_name 8) (ja_cons (je_tup ja_nil) ja_nil))))) ja_nil))))) (fun v70 => (jc_nil (by repeat (first | exact Weak.nil | refine Weak.same ?_ | refine Weak.none ?_)) (.inr rfl)))))))))) (fun t17 => (jc_append 1 (by first | exact weak_none rfl | exact Weak.rfl) (je_strM PySem.F.slot_str_join PySem.F.type_str_join md_join nx_join (JE.b je_str) (jab_cons (jb_own 3) jab_nil)) (fun v74 => (jc_nil (by repeat (first | exact Weak.nil | refine Weak.same ?_ | refine Weak.none ?_)) (.inr rfl)))))))))) (fun t2 => (jc_retF (by first | exact weak_none rfl | exact Weak.rfl) (je_strM PySem.F.slot_str_join PySem.F.type_str_join md_join nx_join (JE.b je_str) (jab_cons (jb_own 1) jab_nil)))))))
theorem d__law_range {P : Program} {w : World} {K : PySem.W.Frag} {mg : Str → Option Value} {base : Heap} (G : Fx K mg) (D__law_take : DF P w K mg base 3 "_law_take" s__law_take ["box", "many"] m__law_take) (D__law_text : DF P w K mg base 3 "_law_text" s__law_text ["parts"] m__law_text) (D__law_base : DF P w K mg base 5 "_law_base" s__law_base ["box"] m__law_base) {f : Addr} {fd : FuncData} (F : FunD K "_law_range" "_law_range" (defArgs s__law_range) (defBody s__law_range) (defScope s__law_range) [] [] f fd) (hx : mg "_law_range" = some (.ref f)) : DF P w K mg base 6 "_law_range" s__law_range ["box"] m__law_range :=
  DF.of F hx sc__law_range (fun _ _ _ _ _ _ us h => match us, h with | [_], _ => rfl) (fun ds s h => match ds, h with | [], _ => rfl | [_], h => absurd rfl h | _ :: _ :: _, _ => rfl) fun cdv A outer s H E ds hl hr => match ds, hl with | [a_box], _ => b__law_range G D__law_take D__law_text D__law_base hr a_box
/-! parts_of -/
abbrev s_parts_of : Stmt := top 20
theorem sc_parts_of : FnScope ["text", "found"] ["text"] (defScope s_parts_of) := ⟨rfl, rfl, rfl, by decide +kernel, rfl, by decide +kernel, by decide +kernel⟩
def m_parts_of : List D → M D
  | [a_text] => (((pure a_text >>= fun x3 => pure [] >>= fun x3s => pure (x3 :: x3s)) >>= m_parts_in) >>= fun v2 => ((pure v2 >>= fun d => pure (Op.isNon d)) >>= fun b => if b then (pure a_text >>= fun d => M.exc ("InvalidVersion" : Str) [(("given" : Str), d)]) else pure v2))
  | _ => M.bad
theorem b_parts_of {P : Program} {w : World} {K : PySem.W.Frag} {mg : Str → Option Value} {base : Heap} (G : Fx K mg) (D_parts_in : DF P w K mg base 6 "parts_in" s_parts_in ["value"] m_parts_in) {f : Addr} {cdv : Value} {A : Around} {outer : List Env} {s : Shared} {H : Hp} {E : XK} (hr : Room 6 (A.deeper (envOfC "parts_of" (defScope s_parts_of) s.heap.objs.size f cdv))) (a_text : D) :
  JC (cxOf (L2.CX P w) P w K mg base ["text", "found"] "parts_of" (defScope s_parts_of) f cdv A outer s H E) (fun c d _ H2 => E c d H2) (List.replicate 2 none) [some (.val a_text), none] (defBody s_parts_of) U0 (m_parts_of [a_text]) .fin := by
  have tk : Takes (cxOf (L2.CX P w) P w K mg base ["text", "found"] "parts_of" (defScope s_parts_of) f cdv A outer s H E) (fun c d _ H2 => E c d H2) := takes_of rfl rfl rfl rfl
  exact (jc_set 1 (by first | exact weak_none rfl | exact Weak.rfl) sc_parts_of.nd (je_call D_parts_in (hr.mono (by omega)) tk rfl (ja_cons (je_name 0) ja_nil)) (fun v2 => (jc_if (by first | exact weak_none rfl | exact Weak.rfl) (jt_isNone (JE.b (je_name 1))) (jc_raise rfl G.e_InvalidVersion hr tk (by first | exact weak_none rfl | exact Weak.rfl) (je_name 0) rfl) (jc_end (jc_retF (by first | exact weak_none rfl | exact Weak.rfl) (je_name 1))))))
theorem d_parts_of {P : Program} {w : World} {K : PySem.W.Frag} {mg : Str → Option Value} {base : Heap} (G : Fx K mg) (D_parts_in : DF P w K mg base 6 "parts_in" s_parts_in ["value"] m_parts_in) {f : Addr} {fd : FuncData} (F : FunD K "parts_of" "parts_of" (defArgs s_parts_of) (defBody s_parts_of) (defScope s_parts_of) [] [] f fd) (hx : mg "parts_of" = some (.ref f)) : DF P w K mg base 7 "parts_of" s_parts_of ["text"] m_parts_of :=
  DF.of F hx sc_parts_of (fun _ _ _ _ _ _ us h => match us, h with | [_], _ => rfl) (fun ds s h => match ds, h with | [], _ => rfl | [_], h => absurd rfl h | _ :: _ :: _, _ => rfl) fun cdv A outer s H E ds hl hr => match ds, hl with | [a_text], _ => b_parts_of G D_parts_in hr a_text
/-! are_versions -/
abbrev s_are_versions : Stmt := top 22
theorem sc_are_versions : FnScope ["value", "text"] ["value"] (defScope s_are_versions) := ⟨rfl, rfl, rfl, by decide +kernel, rfl, by decide +kernel, by decide +kernel⟩
def m_are_versions : List D → M D
  | [a_value] => (((((pure a_value >>= Bi.isi "tuple") >>= truthB) >>= fun b => pure (!b)) >>= fun c => if c then pure true else (((pure a_value >>= fun x1 => pure [] >>= fun x1s => pure (x1 :: x1s)) >>= Bi.len) >>= fun x2 => pure c_MOST_TEXTS >>= fun y3 => Op.gtG x2 y3 >>= truthB)) >>= fun b => if b then pure (D.bl false) else ((((pure a_value >>= itemsOf) >>= comp fun x11 => (fun d => pure d) x11 >>= fun b9 => pure true >>= fun b => if b then (((pure b9 >>= fun x10 => pure [] >>= fun x10s => pure (x10 :: x10s)) >>= m_parts_in) >>= fun d => pure (D.bl (!Op.isNon d))) >>= fun y => pure (some y) else pure none) >>= fun x8 => pure [] >>= fun x8s => pure (x8 :: x8s)) >>= Bi.all))
  | _ => M.bad
theorem b_are_versions {P : Program} {w : World} {K : PySem.W.Frag} {mg : Str → Option Value} {base : Heap} (G : Fx K mg) (D_parts_in : DF P w K mg base 6 "parts_in" s_parts_in ["value"] m_parts_in) {f : Addr} {cdv : Value} {A : Around} {outer : List Env} {s : Shared} {H : Hp} {E : XK} (hr : Room 6 (A.deeper (envOfC "are_versions" (defScope s_are_versions) s.heap.objs.size f cdv))) (a_value : D) :
  JC (cxOf (L2.CX P w) P w K mg base ["value", "text"] "are_versions" (defScope s_are_versions) f cdv A outer s H E) (fun c d _ H2 => E c d H2) (List.replicate 2 none) [some (.val a_value), none] (defBody s_are_versions) U0 (m_are_versions [a_value]) .fin := by
  have tk : Takes (cxOf (L2.CX P w) P w K mg base ["value", "text"] "are_versions" (defScope s_are_versions) f cdv A outer s H E) (fun c d _ H2 => E c d H2) := takes_of rfl rfl rfl rfl
  exact (jc_if (by first | exact weak_none rfl | exact Weak.rfl) (jt_w (jw_or (jt_not (jt_bool (je_isi (T := "tuple") (by decide) rfl G.f_isinstance rfl G.f_tuple (by decide +kernel) (JE.b (je_name 0))))) (jw_or1 (jt_cmp (od_gtG hr.units) nx_gtG (JE.b (je_callB cd_len nx_len rfl G.f_len (by decide +kernel) (jab_cons (JE.b (je_name 0)) jab_nil))) (JE.b (je_gD G.g_MOST_TEXTS rfl)) rfl)))) (jc_retF (by first | exact weak_none rfl | exact Weak.rfl) je_bl) (jc_end (jc_retF (by first | exact weak_none rfl | exact Weak.rfl) (je_callB (cd_all rfl) nx_all rfl G.f_all (by decide +kernel) (jab_cons (JE.b (JF.je (jf_lc (own := [("text", 1)]) rfl sc_are_versions.nd (jib_any (JE.b (je_name 0))) (blk_of (by kernel_rfl)) (fun _ _ _ _ _ => (pg_name (i := 1) sc_are_versions.nd rfl (by first | exact Or.inl rfl | exact Or.inr rfl))) (go_name _ 1) (by simp) (fun _ _ _ _ _ b9 => tY) (fun _ _ _ _ _ b9 => (je_isNotNone (JE.b (je_call D_parts_in (hr.mono (by omega)) takes_none5 rfl (ja_cons (je_name 1) ja_nil)))))))) jab_nil)))))
theorem d_are_versions {P : Program} {w : World} {K : PySem.W.Frag} {mg : Str → Option Value} {base : Heap} (G : Fx K mg) (D_parts_in : DF P w K mg base 6 "parts_in" s_parts_in ["value"] m_parts_in) {f : Addr} {fd : FuncData} (F : FunD K "are_versions" "are_versions" (defArgs s_are_versions) (defBody s_are_versions) (defScope s_are_versions) [] [] f fd) (hx : mg "are_versions" = some (.ref f)) : DF P w K mg base 7 "are_versions" s_are_versions ["value"] m_are_versions :=
  DF.of F hx sc_are_versions (fun _ _ _ _ _ _ us h => match us, h with | [_], _ => rfl) (fun ds s h => match ds, h with | [], _ => rfl | [_], h => absurd rfl h | _ :: _ :: _, _ => rfl) fun cdv A outer s H E ds hl hr => match ds, hl with | [a_value], _ => b_are_versions G D_parts_in hr a_value
/-! bound_in -/
abbrev s_bound_in : Stmt := top 33
theorem sc_bound_in : FnScope ["text", "sign", "parts"] ["text"] (defScope s_bound_in) := ⟨rfl, rfl, rfl, by decide +kernel, rfl, by decide +kernel, by decide +kernel⟩
def m_bound_in : List D → M D
  | [a_text] => ((pure a_text >>= fun x1 => pure c_ALL >>= fun y2 => Op.eq x1 y2 >>= truthB) >>= fun b => if b then ((pure (D.int 0) >>= fun x5 => (pure c_END >>= fun x6 => pure [] >>= fun x6s => pure (x6 :: x6s)) >>= fun x5s => pure (x5 :: x5s)) >>= Op.mkT) else (((pure c_SIGNS >>= itemsOf) >>= fun xs => forF (fun x35 (t7 : Unit) => (fun d => pure d) x35 >>= fun b8 => (((pure a_text >>= fun d => Me.isStr d >>= fun _ => (pure b8 >>= fun x9 => pure [] >>= fun x9s => pure (x9 :: x9s)) >>= fun ds => Me.startswith d ds) >>= truthB) >>= fun b => if b then ((((pure a_text >>= fun x18 => (((pure b8 >>= fun x16 => pure [] >>= fun x16s => pure (x16 :: x16s)) >>= Bi.len) >>= fun x17 => Op.asInt x17 >>= fun i => pure (some i)) >>= fun lx18 => pure none >>= fun hx18 => Op.slc x18 lx18 hx18) >>= fun x15 => pure [] >>= fun x15s => pure (x15 :: x15s)) >>= m_parts_in) >>= fun v14 => ((((pure v14 >>= fun d => pure (!Op.isNon d)) >>= fun c => if c then ((pure v14 >>= fun x27 => pure (D.int 3) >>= fun y28 => Op.idx x27 y28) >>= fun x29 => (pure [] >>= Op.mkT) >>= fun y30 => Op.eq x29 y30 >>= truthB) else pure false) >>= fun t => if t then ((pure b8 >>= fun x31 => ((pure v14 >>= fun x34 => pure none >>= fun lx34 => (pure (D.int 3) >>= fun x33 => Op.asInt x33 >>= fun i => pure (some i)) >>= fun hx34 => Op.slc x34 lx34 hx34) >>= fun x32 => pure [] >>= fun x32s => pure (x32 :: x32s)) >>= fun x31s => pure (x31 :: x31s)) >>= m_bounds_of) else pure D.non) >>= fun d => pure (Fl.rt d))) else pure (Fl.nx ()))) xs ()) >>= flK (fun (t7 : Unit) => pure D.non) (fun d => d)))
  | _ => M.bad
theorem b_bound_in {P : Program} {w : World} {K : PySem.W.Frag} {mg : Str → Option Value} {base : Heap} (G : Fx K mg) (D_parts_in : DF P w K mg base 6 "parts_in" s_parts_in ["value"] m_parts_in) (D_bounds_of : DF P w K mg base 5 "bounds_of" s_bounds_of ["sign", "numbers"] m_bounds_of) {f : Addr} {cdv : Value} {A : Around} {outer : List Env} {s : Shared} {H : Hp} {E : XK} (hr : Room 6 (A.deeper (envOfC "bound_in" (defScope s_bound_in) s.heap.objs.size f cdv))) (a_text : D) :
  JC (cxOf (L2.CX P w) P w K mg base ["text", "sign", "parts"] "bound_in" (defScope s_bound_in) f cdv A outer s H E) (fun c d _ H2 => E c d H2) (List.replicate 3 none) [some (.val a_text), none, none] (defBody s_bound_in) U0 (m_bound_in [a_text]) .fin := by
  have tk : Takes (cxOf (L2.CX P w) P w K mg base ["text", "sign", "parts"] "bound_in" (defScope s_bound_in) f cdv A outer s H E) (fun c d _ H2 => E c d H2) := takes_of rfl rfl rfl rfl
  exact (jc_if (by first | exact weak_none rfl | exact Weak.rfl) (jt_cmp (od_eq hr.units) nx_eq (JE.b (je_name 0)) (JE.b (je_gD G.g_ALL rfl)) rfl) (jc_retF (by first | exact weak_none rfl | exact Weak.rfl) (je_tup (ja_cons je_int (ja_cons (je_gD G.g_END rfl) ja_nil)))) (jc_end (jc_fl2 (r := (fun d => d)) (j1_forF (eN := (fun (t7 : Unit) => ([some (.val a_text), none, none] : EnvD))) (t0 := ()) (passes_of rfl) rfl (by first | exact weak_none rfl | exact Weak.rfl) (ji_any (je_gD G.g_SIGNS.d rfl)) (pg_name (i := 1) sc_bound_in.nd rfl (by first | exact Or.inl rfl | exact Or.inr rfl)) (go_name _ 1) (by repeat (first | exact Weak.nil | refine Weak.same ?_ | refine Weak.none ?_)) (fun t7 b8 => (jc_if (by first | exact weak_none rfl | exact Weak.rfl) (jt_bool (je_strM PySem.F.slot_str_startswith PySem.F.type_str_startswith md_startswith nx_startswith (JE.b (je_name 0)) (jab_cons (JE.b (je_name 1)) jab_nil))) (jc_set 2 (by first | exact weak_none rfl | exact Weak.rfl) sc_bound_in.nd (je_call D_parts_in (hr.mono (by omega)) tk rfl (ja_cons (je_slice (JE.b (je_name 0)) (jo_some (je_callB cd_len nx_len rfl G.f_len (by decide +kernel) (jab_cons (JE.b (je_name 1)) jab_nil))) jo_none) ja_nil)) (fun v14 => (jc_ret (r := Fl.rt) (by first | exact weak_none rfl | exact Weak.rfl) (je_if (jt_w (jw_and (jt_isNotNone (JE.b (je_name 2))) (jw_and1 (jt_cmp (od_eq hr.units) nx_eq (JE.b (je_ix (JE.b (je_name 2)) (JE.b je_int) (fun _ _ => rfl))) (JE.b (je_tup ja_nil)) rfl)))) (je_call D_bounds_of (hr.mono (by omega)) tk rfl (ja_cons (je_name 1) (ja_cons (je_slice (JE.b (je_name 2)) jo_none (jo_some je_int)) ja_nil))) je_non) (fun _ => .inl rfl)))) (jc_end (jc_nil (by repeat (first | exact Weak.nil | refine Weak.same ?_ | refine Weak.none ?_)) (.inr rfl)))))) (fun t7 => (jc_retF (by first | exact weak_none rfl | exact Weak.rfl) je_non)) (fun _ => .inr rfl))))
theorem d_bound_in {P : Program} {w : World} {K : PySem.W.Frag} {mg : Str → Option Value} {base : Heap} (G : Fx K mg) (D_parts_in : DF P w K mg base 6 "parts_in" s_parts_in ["value"] m_parts_in) (D_bounds_of : DF P w K mg base 5 "bounds_of" s_bounds_of ["sign", "numbers"] m_bounds_of) {f : Addr} {fd : FuncData} (F : FunD K "bound_in" "bound_in" (defArgs s_bound_in) (defBody s_bound_in) (defScope s_bound_in) [] [] f fd) (hx : mg "bound_in" = some (.ref f)) : DF P w K mg base 7 "bound_in" s_bound_in ["text"] m_bound_in :=
  DF.of F hx sc_bound_in (fun _ _ _ _ _ _ us h => match us, h with | [_], _ => rfl) (fun ds s h => match ds, h with | [], _ => rfl | [_], h => absurd rfl h | _ :: _ :: _, _ => rfl) fun cdv A outer s H E ds hl hr => match ds, hl with | [a_text], _ => b_bound_in G D_parts_in D_bounds_of hr a_text
/-! _law_rows -/
abbrev s__law_rows : Stmt := top 59
theorem sc__law_rows : FnScope ["text", "found", "part", "bounds", "word", "low", "high"] ["text"] (defScope s__law_rows) := ⟨rfl, rfl, rfl, by decide +kernel, rfl, by decide +kernel, by decide +kernel⟩
def m__law_rows : List D → M D
  | [a_text] => (((((pure a_text >>= Bi.isi "str") >>= truthB) >>= fun b => pure (!b)) >>= fun c => if c then pure true else ((((pure a_text >>= fun d => Me.isStr d >>= fun _ => (pure (D.str (" || " : Str)) >>= fun x2 => pure [] >>= fun x2s => pure (x2 :: x2s)) >>= fun ds => Me.split d ds) >>= fun x1 => pure [] >>= fun x1s => pure (x1 :: x1s)) >>= Bi.len) >>= fun x3 => pure (D.int 4) >>= fun y4 => Op.gtG x3 y4 >>= truthB)) >>= fun b => if b then pure D.non else ((pure [] >>= Op.mkL) >>= lstK fun w5 => ((((pure a_text >>= fun d => Me.isStr d >>= fun _ => (pure (D.str (" || " : Str)) >>= fun x7 => pure [] >>= fun x7s => pure (x7 :: x7s)) >>= fun ds => Me.split d ds) >>= itemsOf) >>= fun xs => forF (fun x32 (t6 : List D) => (fun d => pure d) x32 >>= fun b8 => ((((pure b8 >>= fun d => Me.isStr d >>= fun _ => (pure (D.str (" " : Str)) >>= fun x14 => pure [] >>= fun x14s => pure (x14 :: x14s)) >>= fun ds => Me.split d ds) >>= itemsOf) >>= comp fun x17 => (fun d => pure d) x17 >>= fun b15 => pure true >>= fun b => if b then ((pure b15 >>= fun x16 => pure [] >>= fun x16s => pure (x16 :: x16s)) >>= m__law_bound) >>= fun y => pure (some y) else pure none) >>= fun v13 => (((pure D.non >>= fun x18 => pure v13 >>= fun y19 => Op.isIn x18 y19 >>= truthB) >>= fun c => if c then pure true else (((pure v13 >>= fun x20 => pure [] >>= fun x20s => pure (x20 :: x20s)) >>= Bi.len) >>= fun x21 => pure (D.int 4) >>= fun y22 => Op.gtG x21 y22 >>= truthB)) >>= fun b => if b then (pure D.non >>= fun d => pure (Fl.rt d)) else (((((((pure v13 >>= itemsOf) >>= comp fun x26 => un2 x26 >>= fun b25 => pure true >>= fun b => if b then pure b25.1 >>= fun y => pure (some y) else pure none) >>= fun x24 => pure [] >>= fun x24s => pure (x24 :: x24s)) >>= Bi.max) >>= fun x23 => (((((pure v13 >>= itemsOf) >>= comp fun x30 => un2 x30 >>= fun b29 => pure true >>= fun b => if b then pure b29.2 >>= fun y => pure (some y) else pure none) >>= fun x28 => pure [] >>= fun x28s => pure (x28 :: x28s)) >>= Bi.min) >>= fun x27 => pure [] >>= fun x27s => pure (x27 :: x27s)) >>= fun x23s => pure (x23 :: x23s)) >>= Op.mkT) >>= fun v31 => if Op.lenOk (List.length t6 + 1) then pure (Fl.nx (t6 ++ [v31])) else M.bad)))) xs w5) >>= flK (fun (t6 : List D) => pure (D.lst t6)) (fun d => d))))
  | _ => M.bad
theorem b__law_rows {P : Program} {w : World} {K : PySem.W.Frag} {mg : Str → Option Value} {base : Heap} (G : Fx K mg) (D__law_bound : DF P w K mg base 6 "_law_bound" s__law_bound ["text"] m__law_bound) {f : Addr} {cdv : Value} {A : Around} {outer : List Env} {s : Shared} {H : Hp} {E : XK} (hr : Room 6 (A.deeper (envOfC "_law_rows" (defScope s__law_rows) s.heap.objs.size f cdv))) (a_text : D) :
  JC (cxOf (L2.CX P w) P w K mg base ["text", "found", "part", "bounds", "word", "low", "high"] "_law_rows" (defScope s__law_rows) f cdv A outer s H E) (fun c d _ H2 => E c d H2) (List.replicate 7 none) [some (.val a_text), none, none, none, none, none, none] (defBody s__law_rows) U0 (m__law_rows [a_text]) .fin := by
  have tk : Takes (cxOf (L2.CX P w) P w K mg base ["text", "found", "part", "bounds", "word", "low", "high"] "_law_rows" (defScope s__law_rows) f cdv A outer s H E) (fun c d _ H2 => E c d H2) := takes_of rfl rfl rfl rfl
  exact (jc_if (by first | exact weak_none rfl | exact Weak.rfl) (jt_w (jw_or (jt_not (jt_bool (je_isi (T := "str") (by decide) rfl G.f_isinstance rfl G.f_str (by decide +kernel) (JE.b (je_name 0))))) (jw_or1 (jt_cmp (od_gtG hr.units) nx_gtG (JE.b (je_callB cd_len nx_len rfl G.f_len (by decide +kernel) (jab_cons (JE.b (je_strM PySem.F.slot_str_split PySem.F.type_str_split md_split nx_split (JE.b (je_name 0)) (jab_cons (JE.b je_str) jab_nil))) jab_nil))) (JE.b je_int) rfl)))) (jc_retF (by first | exact weak_none rfl | exact Weak.rfl) je_non) (jc_end (jc_setOwn 1 (by first | exact weak_none rfl | exact Weak.rfl) sc__law_rows.nd (jf_lst ja_nil) (jc_lstK (f := fun d => _) fun w5 => (jc_fl2 (r := (fun d => d)) (j1_forF (eN := (fun (t6 : List D) => ([some (.val a_text), some (.own (.lst t6)), none, none, none, none, none] : EnvD))) (t0 := w5) (passes_of rfl) rfl (by first | exact weak_none rfl | exact Weak.rfl) (ji_any (je_strM PySem.F.slot_str_split PySem.F.type_str_split md_split nx_split (JE.b (je_name 0)) (jab_cons (JE.b je_str) jab_nil))) (pg_name (i := 2) sc__law_rows.nd rfl (by first | exact Or.inl rfl | exact Or.inr rfl)) (go_name _ 2) (by repeat (first | exact Weak.nil | refine Weak.same ?_ | refine Weak.none ?_)) (fun t6 b8 => (jc_setLc (hl := by simp) (own := [("word", 4)]) 3 (by first | exact weak_none rfl | exact Weak.rfl) rfl sc__law_rows.nd rfl (jib_any (JE.b (je_strM PySem.F.slot_str_split PySem.F.type_str_split md_split nx_split (JE.b (je_name 2)) (jab_cons (JE.b je_str) jab_nil)))) (blk_of (by kernel_rfl)) (fun _ _ _ _ _ => (pg_name (i := 4) sc__law_rows.nd rfl (by first | exact Or.inl rfl | exact Or.inr rfl))) (go_name _ 4) (by simp) (fun _ _ _ _ _ b15 => tY) (fun _ _ _ _ _ b15 => (je_call D__law_bound (hr.mono (by omega)) takes_none5 rfl (ja_cons (je_name 4) ja_nil))) (fun v13 => (jc_if (by first | exact weak_none rfl | exact Weak.rfl) (jt_w (jw_or (jt_cmp (od_in hr.units) nx_isIn (JE.b je_non) (JE.b (je_name 3)) rfl) (jw_or1 (jt_cmp (od_gtG hr.units) nx_gtG (JE.b (je_callB cd_len nx_len rfl G.f_len (by decide +kernel) (jab_cons (JE.b (je_name 3)) jab_nil))) (JE.b je_int) rfl)))) (jc_ret (r := Fl.rt) (by first | exact weak_none rfl | exact Weak.rfl) je_non (fun _ => .inl rfl)) (jc_end (jc_append 1 (by first | exact weak_none rfl | exact Weak.rfl) (je_tup (ja_cons (je_callB (cd_max rfl) nx_max rfl G.f_max (by decide +kernel) (jab_cons (JE.b (JF.je (jf_lc (own := [("low", 5), ("high", 6)]) rfl sc__law_rows.nd (jib_any (JE.b (je_name 3))) (blk_of (by kernel_rfl)) (fun _ _ _ _ _ => (pg_tup rfl (pgs_cons (pg_name (i := 5) sc__law_rows.nd rfl (by first | exact Or.inl rfl | exact Or.inr rfl)) (pgs_cons (pg_name (i := 6) sc__law_rows.nd rfl (by first | exact Or.inl rfl | exact Or.inr rfl)) pgs_nil)))) (go_tup2 _ 5 6) (by simp) (fun _ _ _ _ _ b25 => tY) (fun _ _ _ _ _ b25 => (je_name 5))))) jab_nil)) (ja_cons (je_callB (cd_min rfl) nx_min rfl G.f_min (by decide +kernel) (jab_cons (JE.b (JF.je (jf_lc (own := [("low", 5), ("high", 6)]) rfl sc__law_rows.nd (jib_any (JE.b (je_name 3))) (blk_of (by kernel_rfl)) (fun _ _ _ _ _ => (pg_tup rfl (pgs_cons (pg_name (i := 5) sc__law_rows.nd rfl (by first | exact Or.inl rfl | exact Or.inr rfl)) (pgs_cons (pg_name (i := 6) sc__law_rows.nd rfl (by first | exact Or.inl rfl | exact Or.inr rfl)) pgs_nil)))) (go_tup2 _ 5 6) (by simp) (fun _ _ _ _ _ b29 => tY) (fun _ _ _ _ _ b29 => (je_name 6))))) jab_nil)) ja_nil))) (fun v31 => (jc_nil (by repeat (first | exact Weak.nil | refine Weak.same ?_ | refine Weak.none ?_)) (.inr rfl)))))))))) (fun t6 => (jc_freeze 1 rfl (jc_retF (by first | exact weak_none rfl | exact Weak.rfl) (je_name 1)))) (fun _ => .inr rfl))))))
theorem d__law_rows {P : Program} {w : World} {K : PySem.W.Frag} {mg : Str → Option Value} {base : Heap} (G : Fx K mg) (D__law_bound : DF P w K mg base 6 "_law_bound" s__law_bound ["text"] m__law_bound) {f : Addr} {fd : FuncData} (F : FunD K "_law_rows" "_law_rows" (defArgs s__law_rows) (defBody s__law_rows) (defScope s__law_rows) [] [] f fd) (hx : mg "_law_rows" = some (.ref f)) : DF P w K mg base 7 "_law_rows" s__law_rows ["text"] m__law_rows :=
  DF.of F hx sc__law_rows (fun _ _ _ _ _ _ us h => match us, h with | [_], _ => rfl) (fun ds s h => match ds, h with | [], _ => rfl | [_], h => absurd rfl h | _ :: _ :: _, _ => rfl) fun cdv A outer s H E ds hl hr => match ds, hl with | [a_text], _ => b__law_rows G D__law_bound hr a_text
/-! alternative_in -/
abbrev s_alternative_in : Stmt := top 34
theorem sc_alternative_in : FnScope ["text", "bounds", "word", "low", "_", "high"] ["text"] (defScope s_alternative_in) := ⟨rfl, rfl, rfl, by decide +kernel, rfl, by decide +kernel, by decide +kernel⟩
def m_alternative_in : List D → M D
  | [a_text] => ((((pure a_text >>= fun d => Me.isStr d >>= fun _ => (pure (D.str (" " : Str)) >>= fun x6 => pure [] >>= fun x6s => pure (x6 :: x6s)) >>= fun ds => Me.split d ds) >>= itemsOf) >>= comp fun x9 => (fun d => pure d) x9 >>= fun b7 => pure true >>= fun b => if b then ((pure b7 >>= fun x8 => pure [] >>= fun x8s => pure (x8 :: x8s)) >>= m_bound_in) >>= fun y => pure (some y) else pure none) >>= fun v5 => (((((pure v5 >>= fun x10 => pure [] >>= fun x10s => pure (x10 :: x10s)) >>= Bi.len) >>= fun x11 => pure c_MOST_BOUNDS >>= fun y12 => Op.gtG x11 y12 >>= truthB) >>= fun c => if c then pure true else (pure D.non >>= fun x13 => pure v5 >>= fun y14 => Op.isIn x13 y14 >>= truthB)) >>= fun b => if b then pure D.non else ((((((pure v5 >>= itemsOf) >>= comp fun x26 => un2 x26 >>= fun b25 => pure true >>= fun b => if b then pure b25.1 >>= fun y => pure (some y) else pure none) >>= fun x24 => pure [] >>= fun x24s => pure (x24 :: x24s)) >>= Bi.max) >>= fun x23 => (((((pure v5 >>= itemsOf) >>= comp fun x30 => un2 x30 >>= fun b29 => pure true >>= fun b => if b then pure b29.2 >>= fun y => pure (some y) else pure none) >>= fun x28 => pure [] >>= fun x28s => pure (x28 :: x28s)) >>= Bi.min) >>= fun x27 => pure [] >>= fun x27s => pure (x27 :: x27s)) >>= fun x23s => pure (x23 :: x23s)) >>= Op.mkT)))
  | _ => M.bad
theorem b_alternative_in {P : Program} {w : World} {K : PySem.W.Frag} {mg : Str → Option Value} {base : Heap} (G : Fx K mg) (D_bound_in : DF P w K mg base 7 "bound_in" s_bound_in ["text"] m_bound_in) {f : Addr} {cdv : Value} {A : Around} {outer : List Env} {s : Shared} {H : Hp} {E : XK} (hr : Room 7 (A.deeper (envOfC "alternative_in" (defScope s_alternative_in) s.heap.objs.size f cdv))) (a_text : D) :
  JC (cxOf (L2.CX P w) P w K mg base ["text", "bounds", "word", "low", "_", "high"] "alternative_in" (defScope s_alternative_in) f cdv A outer s H E) (fun c d _ H2 => E c d H2) (List.replicate 6 none) [some (.val a_text), none, none, none, none, none] (defBody s_alternative_in) U0 (m_alternative_in [a_text]) .fin := by
  have tk : Takes (cxOf (L2.CX P w) P w K mg base ["text", "bounds", "word", "low", "_", "high"] "alternative_in" (defScope s_alternative_in) f cdv A outer s H E) (fun c d _ H2 => E c d H2) := takes_of rfl rfl rfl rfl
  exact (jc_setLc (hl := by simp) (own := [("word", 2)]) 1 (by first | exact weak_none rfl | exact Weak.rfl) rfl sc_alternative_in.nd rfl (jib_any (JE.b (je_strM PySem.F.slot_str_split PySem.F.type_str_split md_split nx_split (JE.b (je_name 0)) (jab_cons (JE.b je_str) jab_nil)))) (blk_of (by kernel_rfl)) (fun _ _ _ _ _ => (pg_name (i := 2) sc_alternative_in.nd rfl (by first | exact Or.inl rfl | exact Or.inr rfl))) (go_name _ 2) (by simp) (fun _ _ _ _ _ b7 => tY) (fun _ _ _ _ _ b7 => (je_call D_bound_in (hr.mono (by omega)) takes_none5 rfl (ja_cons (je_name 2) ja_nil))) (fun v5 => (jc_if (by first | exact weak_none rfl | exact Weak.rfl) (jt_w (jw_or (jt_cmp (od_gtG hr.units) nx_gtG (JE.b (je_callB cd_len nx_len rfl G.f_len (by decide +kernel) (jab_cons (JE.b (je_name 1)) jab_nil))) (JE.b (je_gD G.g_MOST_BOUNDS rfl)) rfl) (jw_or1 (jt_cmp (od_in hr.units) nx_isIn (JE.b je_non) (JE.b (je_name 1)) rfl)))) (jc_retF (by first | exact weak_none rfl | exact Weak.rfl) je_non) (jc_end (jc_retF (by first | exact weak_none rfl | exact Weak.rfl) (je_tup (ja_cons (je_callB (cd_max rfl) nx_max rfl G.f_max (by decide +kernel) (jab_cons (JE.b (JF.je (jf_lc (own := [("low", 3), ("_", 4)]) rfl sc_alternative_in.nd (jib_any (JE.b (je_name 1))) (blk_of (by kernel_rfl)) (fun _ _ _ _ _ => (pg_tup rfl (pgs_cons (pg_name (i := 3) sc_alternative_in.nd rfl (by first | exact Or.inl rfl | exact Or.inr rfl)) (pgs_cons (pg_name (i := 4) sc_alternative_in.nd rfl (by first | exact Or.inl rfl | exact Or.inr rfl)) pgs_nil)))) (go_tup2 _ 3 4) (by simp) (fun _ _ _ _ _ b25 => tY) (fun _ _ _ _ _ b25 => (je_name 3))))) jab_nil)) (ja_cons (je_callB (cd_min rfl) nx_min rfl G.f_min (by decide +kernel) (jab_cons (JE.b (JF.je (jf_lc (own := [("_", 4), ("high", 5)]) rfl sc_alternative_in.nd (jib_any (JE.b (je_name 1))) (blk_of (by kernel_rfl)) (fun _ _ _ _ _ => (pg_tup rfl (pgs_cons (pg_name (i := 4) sc_alternative_in.nd rfl (by first | exact Or.inl rfl | exact Or.inr rfl)) (pgs_cons (pg_name (i := 5) sc_alternative_in.nd rfl (by first | exact Or.inl rfl | exact Or.inr rfl)) pgs_nil)))) (go_tup2 _ 4 5) (by simp) (fun _ _ _ _ _ b29 => tY) (fun _ _ _ _ _ b29 => (je_name 5))))) jab_nil)) ja_nil))))))))
theorem d_alternative_in {P : Program} {w : World} {K : PySem.W.Frag} {mg : Str → Option Value} {base : Heap} (G : Fx K mg) (D_bound_in : DF P w K mg base 7 "bound_in" s_bound_in ["text"] m_bound_in) {f : Addr} {fd : FuncData} (F : FunD K "alternative_in" "alternative_in" (defArgs s_alternative_in) (defBody s_alternative_in) (defScope s_alternative_in) [] [] f fd) (hx : mg "alternative_in" = some (.ref f)) : DF P w K mg base 8 "alternative_in" s_alternative_in ["text"] m_alternative_in :=
  DF.of F hx sc_alternative_in (fun _ _ _ _ _ _ us h => match us, h with | [_], _ => rfl) (fun ds s h => match ds, h with | [], _ => rfl | [_], h => absurd rfl h | _ :: _ :: _, _ => rfl) fun cdv A outer s H E ds hl hr => match ds, hl with | [a_text], _ => b_alternative_in G D_bound_in hr a_text
/-! rows_in -/
abbrev s_rows_in : Stmt := top 36
theorem sc_rows_in : FnScope ["value", "rows", "text"] ["value"] (defScope s_rows_in) := ⟨rfl, rfl, rfl, by decide +kernel, rfl, by decide +kernel, by decide +kernel⟩
def m_rows_in : List D → M D
  | [a_value] => ((((pure a_value >>= Bi.isi "str") >>= truthB) >>= fun b => pure (!b)) >>= fun b => if b then pure D.non else ((((pure a_value >>= fun d => Me.isStr d >>= fun _ => (pure (D.str (" || " : Str)) >>= fun x6 => pure [] >>= fun x6s => pure (x6 :: x6s)) >>= fun ds => Me.split d ds) >>= itemsOf) >>= comp fun x9 => (fun d => pure d) x9 >>= fun b7 => pure true >>= fun b => if b then ((pure b7 >>= fun x8 => pure [] >>= fun x8s => pure (x8 :: x8s)) >>= m_alternative_in) >>= fun y => pure (some y) else pure none) >>= fun v5 => (((((pure v5 >>= fun x16 => pure [] >>= fun x16s => pure (x16 :: x16s)) >>= Bi.len) >>= fun x17 => pure c_MOST_ALTERNATIVES >>= fun y18 => Op.gtG x17 y18 >>= truthB) >>= fun c => if c then pure true else (pure D.non >>= fun x19 => pure v5 >>= fun y20 => Op.isIn x19 y20 >>= truthB)) >>= fun t => if t then pure D.non else ((pure v5 >>= fun x21 => pure [] >>= fun x21s => pure (x21 :: x21s)) >>= m_joined))))
  | _ => M.bad
theorem b_rows_in {P : Program} {w : World} {K : PySem.W.Frag} {mg : Str → Option Value} {base : Heap} (G : Fx K mg) (D_alternative_in : DF P w K mg base 8 "alternative_in" s_alternative_in ["text"] m_alternative_in) (D_joined : DF P w K mg base 3 "joined" s_joined ["rows"] m_joined) {f : Addr} {cdv : Value} {A : Around} {outer : List Env} {s : Shared} {H : Hp} {E : XK} (hr : Room 8 (A.deeper (envOfC "rows_in" (defScope s_rows_in) s.heap.objs.size f cdv))) (a_value : D) :
  JC (cxOf (L2.CX P w) P w K mg base ["value", "rows", "text"] "rows_in" (defScope s_rows_in) f cdv A outer s H E) (fun c d _ H2 => E c d H2) (List.replicate 3 none) [some (.val a_value), none, none] (defBody s_rows_in) U0 (m_rows_in [a_value]) .fin := by
  have tk : Takes (cxOf (L2.CX P w) P w K mg base ["value", "rows", "text"] "rows_in" (defScope s_rows_in) f cdv A outer s H E) (fun c d _ H2 => E c d H2) := takes_of rfl rfl rfl rfl
  exact (jc_if (by first | exact weak_none rfl | exact Weak.rfl) (jt_not (jt_bool (je_isi (T := "str") (by decide) rfl G.f_isinstance rfl G.f_str (by decide +kernel) (JE.b (je_name 0))))) (jc_retF (by first | exact weak_none rfl | exact Weak.rfl) je_non) (jc_end (jc_setLc (hl := by simp) (own := [("text", 2)]) 1 (by first | exact weak_none rfl | exact Weak.rfl) rfl sc_rows_in.nd rfl (jib_any (JE.b (je_strM PySem.F.slot_str_split PySem.F.type_str_split md_split nx_split (JE.b (je_name 0)) (jab_cons (JE.b je_str) jab_nil)))) (blk_of (by kernel_rfl)) (fun _ _ _ _ _ => (pg_name (i := 2) sc_rows_in.nd rfl (by first | exact Or.inl rfl | exact Or.inr rfl))) (go_name _ 2) (by simp) (fun _ _ _ _ _ b7 => tY) (fun _ _ _ _ _ b7 => (je_call D_alternative_in (hr.mono (by omega)) takes_none5 rfl (ja_cons (je_name 2) ja_nil))) (fun v5 => (jc_retF (by first | exact weak_none rfl | exact Weak.rfl) (je_if (jt_w (jw_or (jt_cmp (od_gtG hr.units) nx_gtG (JE.b (je_callB cd_len nx_len rfl G.f_len (by decide +kernel) (jab_cons (JE.b (je_name 1)) jab_nil))) (JE.b (je_gD G.g_MOST_ALTERNATIVES rfl)) rfl) (jw_or1 (jt_cmp (od_in hr.units) nx_isIn (JE.b je_non) (JE.b (je_name 1)) rfl)))) je_non (je_call D_joined (hr.mono (by omega)) tk rfl (ja_cons (je_name 1) ja_nil))))))))
theorem d_rows_in {P : Program} {w : World} {K : PySem.W.Frag} {mg : Str → Option Value} {base : Heap} (G : Fx K mg) (D_alternative_in : DF P w K mg base 8 "alternative_in" s_alternative_in ["text"] m_alternative_in) (D_joined : DF P w K mg base 3 "joined" s_joined ["rows"] m_joined) {f : Addr} {fd : FuncData} (F : FunD K "rows_in" "rows_in" (defArgs s_rows_in) (defBody s_rows_in) (defScope s_rows_in) [] [] f fd) (hx : mg "rows_in" = some (.ref f)) : DF P w K mg base 9 "rows_in" s_rows_in ["value"] m_rows_in :=
  DF.of F hx sc_rows_in (fun _ _ _ _ _ _ us h => match us, h with | [_], _ => rfl) (fun ds s h => match ds, h with | [], _ => rfl | [_], h => absurd rfl h | _ :: _ :: _, _ => rfl) fun cdv A outer s H E ds hl hr => match ds, hl with | [a_value], _ => b_rows_in G D_alternative_in D_joined hr a_value
/-! rows_of -/
abbrev s_rows_of : Stmt := top 37
theorem sc_rows_of : FnScope ["text", "found"] ["text"] (defScope s_rows_of) := ⟨rfl, rfl, rfl, by decide +kernel, rfl, by decide +kernel, by decide +kernel⟩
def m_rows_of : List D → M D
  | [a_text] => (((pure a_text >>= fun x3 => pure [] >>= fun x3s => pure (x3 :: x3s)) >>= m_rows_in) >>= fun v2 => ((pure v2 >>= fun d => pure (Op.isNon d)) >>= fun b => if b then (pure a_text >>= fun d => M.exc ("InvalidRange" : Str) [(("given" : Str), d)]) else pure v2))
  | _ => M.bad
theorem b_rows_of {P : Program} {w : World} {K : PySem.W.Frag} {mg : Str → Option Value} {base : Heap} (G : Fx K mg) (D_rows_in : DF P w K mg base 9 "rows_in" s_rows_in ["value"] m_rows_in) {f : Addr} {cdv : Value} {A : Around} {outer : List Env} {s : Shared} {H : Hp} {E : XK} (hr : Room 9 (A.deeper (envOfC "rows_of" (defScope s_rows_of) s.heap.objs.size f cdv))) (a_text : D) :
  JC (cxOf (L2.CX P w) P w K mg base ["text", "found"] "rows_of" (defScope s_rows_of) f cdv A outer s H E) (fun c d _ H2 => E c d H2) (List.replicate 2 none) [some (.val a_text), none] (defBody s_rows_of) U0 (m_rows_of [a_text]) .fin := by
  have tk : Takes (cxOf (L2.CX P w) P w K mg base ["text", "found"] "rows_of" (defScope s_rows_of) f cdv A outer s H E) (fun c d _ H2 => E c d H2) := takes_of rfl rfl rfl rfl
  exact (jc_set 1 (by first | exact weak_none rfl | exact Weak.rfl) sc_rows_of.nd (je_call D_rows_in (hr.mono (by omega)) tk rfl (ja_cons (je_name 0) ja_nil)) (fun v2 => (jc_if (by first | exact weak_none rfl | exact Weak.rfl) (jt_isNone (JE.b (je_name 1))) (jc_raise rfl G.e_InvalidRange hr tk (by first | exact weak_none rfl | exact Weak.rfl) (je_name 0) rfl) (jc_end (jc_retF (by first | exact weak_none rfl | exact Weak.rfl) (je_name 1))))))
theorem d_rows_of {P : Program} {w : World} {K : PySem.W.Frag} {mg : Str → Option Value} {base : Heap} (G : Fx K mg) (D_rows_in : DF P w K mg base 9 "rows_in" s_rows_in ["value"] m_rows_in) {f : Addr} {fd : FuncData} (F : FunD K "rows_of" "rows_of" (defArgs s_rows_of) (defBody s_rows_of) (defScope s_rows_of) [] [] f fd) (hx : mg "rows_of" = some (.ref f)) : DF P w K mg base 10 "rows_of" s_rows_of ["text"] m_rows_of :=
  DF.of F hx sc_rows_of (fun _ _ _ _ _ _ us h => match us, h with | [_], _ => rfl) (fun ds s h => match ds, h with | [], _ => rfl | [_], h => absurd rfl h | _ :: _ :: _, _ => rfl) fun cdv A outer s H E ds hl hr => match ds, hl with | [a_text], _ => b_rows_of G D_rows_in hr a_text
/-! is_range -/
abbrev s_is_range : Stmt := top 38
theorem sc_is_range : FnScope ["value"] ["value"] (defScope s_is_range) := ⟨rfl, rfl, rfl, by decide +kernel, rfl, by decide +kernel, by decide +kernel⟩
def m_is_range : List D → M D
  | [a_value] => (((pure a_value >>= fun x2 => pure [] >>= fun x2s => pure (x2 :: x2s)) >>= m_rows_in) >>= fun d => pure (D.bl (!Op.isNon d)))
  | _ => M.bad
theorem b_is_range {P : Program} {w : World} {K : PySem.W.Frag} {mg : Str → Option Value} {base : Heap} (G : Fx K mg) (D_rows_in : DF P w K mg base 9 "rows_in" s_rows_in ["value"] m_rows_in) {f : Addr} {cdv : Value} {A : Around} {outer : List Env} {s : Shared} {H : Hp} {E : XK} (hr : Room 9 (A.deeper (envOfC "is_range" (defScope s_is_range) s.heap.objs.size f cdv))) (a_value : D) :
  JC (cxOf (L2.CX P w) P w K mg base ["value"] "is_range" (defScope s_is_range) f cdv A outer s H E) (fun c d _ H2 => E c d H2) (List.replicate 1 none) [some (.val a_value)] (defBody s_is_range) U0 (m_is_range [a_value]) .fin := by
  have tk : Takes (cxOf (L2.CX P w) P w K mg base ["value"] "is_range" (defScope s_is_range) f cdv A outer s H E) (fun c d _ H2 => E c d H2) := takes_of rfl rfl rfl rfl
  exact (jc_retF (by first | exact weak_none rfl | exact Weak.rfl) (je_isNotNone (JE.b (je_call D_rows_in (hr.mono (by omega)) tk rfl (ja_cons (je_name 0) ja_nil)))))
theorem d_is_range {P : Program} {w : World} {K : PySem.W.Frag} {mg : Str → Option Value} {base : Heap} (G : Fx K mg) (D_rows_in : DF P w K mg base 9 "rows_in" s_rows_in ["value"] m_rows_in) {f : Addr} {fd : FuncData} (F : FunD K "is_range" "is_range" (defArgs s_is_range) (defBody s_is_range) (defScope s_is_range) [] [] f fd) (hx : mg "is_range" = some (.ref f)) : DF P w K mg base 10 "is_range" s_is_range ["value"] m_is_range :=
  DF.of F hx sc_is_range (fun _ _ _ _ _ _ us h => match us, h with | [_], _ => rfl) (fun ds s h => match ds, h with | [], _ => rfl | [_], h => absurd rfl h | _ :: _ :: _, _ => rfl) fun cdv A outer s H E ds hl hr => match ds, hl with | [a_value], _ => b_is_range G D_rows_in hr a_value
/-! in_range -/
abbrev s_in_range : Stmt := top 41
theorem sc_in_range : FnScope ["version", "text", "parts"] ["version", "text"] (defScope s_in_range) := ⟨rfl, rfl, rfl, by decide +kernel, rfl, by decide +kernel, by decide +kernel⟩
def m_in_range : List D → M D
  | [a_version, a_text] => (((pure a_version >>= fun x3 => pure [] >>= fun x3s => pure (x3 :: x3s)) >>= m_parts_of) >>= fun v2 => ((((pure a_text >>= fun x8 => pure [] >>= fun x8s => pure (x8 :: x8s)) >>= m_rows_of) >>= fun x7 => (pure v2 >>= fun x9 => pure [] >>= fun x9s => pure (x9 :: x9s)) >>= fun x7s => pure (x7 :: x7s)) >>= m_has_parts))
  | _ => M.bad
theorem b_in_range {P : Program} {w : World} {K : PySem.W.Frag} {mg : Str → Option Value} {base : Heap} (G : Fx K mg) (D_parts_of : DF P w K mg base 7 "parts_of" s_parts_of ["text"] m_parts_of) (D_rows_of : DF P w K mg base 10 "rows_of" s_rows_of ["text"] m_rows_of) (D_has_parts : DF P w K mg base 4 "has_parts" s_has_parts ["rows", "parts"] m_has_parts) {f : Addr} {cdv : Value} {A : Around} {outer : List Env} {s : Shared} {H : Hp} {E : XK} (hr : Room 10 (A.deeper (envOfC "in_range" (defScope s_in_range) s.heap.objs.size f cdv))) (a_version a_text : D) :
  JC (cxOf (L2.CX P w) P w K mg base ["version", "text", "parts"] "in_range" (defScope s_in_range) f cdv A outer s H E) (fun c d _ H2 => E c d H2) (List.replicate 3 none) [some (.val a_version), some (.val a_text), none] (defBody s_in_range) U0 (m_in_range [a_version, a_text]) .fin := by
  have tk : Takes (cxOf (L2.CX P w) P w K mg base ["version", "text", "parts"] "in_range" (defScope s_in_range) f cdv A outer s H E) (fun c d _ H2 => E c d H2) := takes_of rfl rfl rfl rfl
  exact (jc_set 2 (by first | exact weak_none rfl | exact Weak.rfl) sc_in_range.nd (je_call D_parts_of (hr.mono (by omega)) tk rfl (ja_cons (je_name 0) ja_nil)) (fun v2 => (jc_retF (by first | exact weak_none rfl | exact Weak.rfl) (je_call D_has_parts (hr.mono (by omega)) tk rfl (ja_cons (je_call D_rows_of (hr.mono (by omega)) tk rfl (ja_cons (je_name 1) ja_nil)) (ja_cons (je_name 2) ja_nil))))))
theorem d_in_range {P : Program} {w : World} {K : PySem.W.Frag} {mg : Str → Option Value} {base : Heap} (G : Fx K mg) (D_parts_of : DF P w K mg base 7 "parts_of" s_parts_of ["text"] m_parts_of) (D_rows_of : DF P w K mg base 10 "rows_of" s_rows_of ["text"] m_rows_of) (D_has_parts : DF P w K mg base 4 "has_parts" s_has_parts ["rows", "parts"] m_has_parts) {f : Addr} {fd : FuncData} (F : FunD K "in_range" "in_range" (defArgs s_in_range) (defBody s_in_range) (defScope s_in_range) [] [] f fd) (hx : mg "in_range" = some (.ref f)) : DF P w K mg base 11 "in_range" s_in_range ["version", "text"] m_in_range :=
  DF.of F hx sc_in_range (fun _ _ _ _ _ _ us h => match us, h with | [_, _], _ => rfl) (fun ds s h => match ds, h with | [], _ => rfl | [_], _ => rfl | [_, _], h => absurd rfl h | _ :: _ :: _ :: _, _ => rfl) fun cdv A outer s H E ds hl hr => match ds, hl with | [a_version, a_text], _ => b_in_range G D_parts_of D_rows_of D_has_parts hr a_version a_text
/-! best_in -/
abbrev s_best_in : Stmt := top 42
theorem sc_best_in : FnScope ["versions", "text", "rows", "some", "version"] ["versions", "text"] (defScope s_best_in) := ⟨rfl, rfl, rfl, by decide +kernel, rfl, by decide +kernel, by decide +kernel⟩
def m_best_in : List D → M D
  | [a_versions, a_text] => (((((pure a_versions >>= fun x1 => pure [] >>= fun x1s => pure (x1 :: x1s)) >>= m_are_versions) >>= truthB) >>= fun b => pure (!b)) >>= fun b => if b then (pure a_versions >>= fun d => M.exc ("InvalidVersions" : Str) [(("given" : Str), d)]) else (((pure a_text >>= fun x4 => pure [] >>= fun x4s => pure (x4 :: x4s)) >>= m_rows_of) >>= fun v3 => (((pure a_versions >>= itemsOf) >>= comp fun x15 => (fun d => pure d) x15 >>= fun b11 => (((pure v3 >>= fun x12 => (((pure b11 >>= fun x14 => pure [] >>= fun x14s => pure (x14 :: x14s)) >>= m_parts_in) >>= fun x13 => pure [] >>= fun x13s => pure (x13 :: x13s)) >>= fun x12s => pure (x12 :: x12s)) >>= m_has_parts) >>= truthB) >>= fun b => if b then pure b11 >>= fun y => pure (some y) else pure none) >>= fun v10 => ((pure v10 >>= fun x22 => (pure [] >>= Op.mkL) >>= fun y23 => Op.ne x22 y23 >>= truthB) >>= fun t => if t then ((pure v10 >>= fun x24 => pure [] >>= fun x24s => pure (x24 :: x24s)) >>= fun ds => Op.tab "best_in" >>= fun _ => Bi.maxKey (fun d25 => ((((pure d25 >>= fun x27 => pure [] >>= fun x27s => pure (x27 :: x27s)) >>= m_parts_in) >>= fun x26 => pure [] >>= fun x26s => pure (x26 :: x26s)) >>= m_key_of)) ds) else pure D.non))))
  | _ => M.bad
theorem b_best_in {P : Program} {w : World} {K : PySem.W.Frag} {mg : Str → Option Value} {base : Heap} (G : Fx K mg) (D_parts_in : DF P w K mg base 6 "parts_in" s_parts_in ["value"] m_parts_in) (D_key_of : DF P w K mg base 3 "key_of" s_key_of ["parts"] m_key_of) (D_are_versions : DF P w K mg base 7 "are_versions" s_are_versions ["value"] m_are_versions) (D_rows_of : DF P w K mg base 10 "rows_of" s_rows_of ["text"] m_rows_of) (D_has_parts : DF P w K mg base 4 "has_parts" s_has_parts ["rows", "parts"] m_has_parts) {f : Addr} {cdv : Value} (hcode : cdv = .ref (ca K "best_in")) (TB : LamX.TabB base mg (ca K "best_in") (ta K "best_in")) {A : Around} {outer : List Env} {s : Shared} {H : Hp} {E : XK} (hr : Room 13 (A.deeper (envOfC "best_in" (defScope s_best_in) s.heap.objs.size f cdv))) (a_versions a_text : D) :
  JC (cxOf (L2.CX P w) P w K mg base ["versions", "text", "rows", "some", "version"] "best_in" (defScope s_best_in) f cdv A outer s H E) (fun c d _ H2 => E c d H2) (List.replicate 5 none) [some (.val a_versions), some (.val a_text), none, none, none] (defBody s_best_in) U0 (m_best_in [a_versions, a_text]) .fin := by
  have tk : Takes (cxOf (L2.CX P w) P w K mg base ["versions", "text", "rows", "some", "version"] "best_in" (defScope s_best_in) f cdv A outer s H E) (fun c d _ H2 => E c d H2) := takes_of rfl rfl rfl rfl
  exact (jc_if (by first | exact weak_none rfl | exact Weak.rfl) (jt_not (jt_bool (je_call D_are_versions (hr.mono (by omega)) tk rfl (ja_cons (je_name 0) ja_nil)))) (jc_raise rfl G.e_InvalidVersions hr tk (by first | exact weak_none rfl | exact Weak.rfl) (je_name 0) rfl) (jc_end (jc_set 2 (by first | exact weak_none rfl | exact Weak.rfl) sc_best_in.nd (je_call D_rows_of (hr.mono (by omega)) tk rfl (ja_cons (je_name 1) ja_nil)) (fun v3 => (jc_setLc (hl := by simp) (own := [("version", 4)]) 3 (by first | exact weak_none rfl | exact Weak.rfl) rfl sc_best_in.nd rfl (jib_any (JE.b (je_name 0))) (blk_of (by kernel_rfl)) (fun _ _ _ _ _ => (pg_name (i := 4) sc_best_in.nd rfl (by first | exact Or.inl rfl | exact Or.inr rfl))) (go_name _ 4) (by simp) (fun _ _ _ _ _ b11 => (t1 (jt_bool (je_call D_has_parts (hr.mono (by omega)) takes_none5 rfl (ja_cons (je_name 2) (ja_cons (je_call D_parts_in (hr.mono (by omega)) takes_none5 rfl (ja_cons (je_name 4) ja_nil)) ja_nil)))))) (fun _ _ _ _ _ b11 => (je_name 4)) (fun v10 => (jc_retF (by first | exact weak_none rfl | exact Weak.rfl) (je_if (jt_cmp (od_ne hr.units) nx_ne (JE.b (je_name 3)) (JE.b (je_lst ja_nil)) rfl) (je_maxK (x := "best_in") (a := "version") (k := 10) rfl hcode TB (hr.mono (by omega)) rfl G.f_max ⟨rfl, rfl, rfl, by decide +kernel, rfl, by decide +kernel, by decide +kernel⟩ rfl (fun _ _ _ _ _ => rfl) (jab_cons (JE.b (je_name 3)) jab_nil) (fun A2 o2 s2 H2 E2 f2 c2 d25 hr2 => (je_call D_key_of (hr2.mono (by omega)) (takes_of rfl rfl rfl rfl) rfl (ja_cons (je_call D_parts_in (hr2.mono (by omega)) (takes_of rfl rfl rfl rfl) rfl (ja_cons (je_name 0) ja_nil)) ja_nil)))) je_non))))))))
theorem d_best_in {P : Program} {w : World} {K : PySem.W.Frag} {mg : Str → Option Value} {base : Heap} (G : Fx K mg) (D_parts_in : DF P w K mg base 6 "parts_in" s_parts_in ["value"] m_parts_in) (D_key_of : DF P w K mg base 3 "key_of" s_key_of ["parts"] m_key_of) (D_are_versions : DF P w K mg base 7 "are_versions" s_are_versions ["value"] m_are_versions) (D_rows_of : DF P w K mg base 10 "rows_of" s_rows_of ["text"] m_rows_of) (D_has_parts : DF P w K mg base 4 "has_parts" s_has_parts ["rows", "parts"] m_has_parts) (TB : LamX.TabB base mg (ca K "best_in") (ta K "best_in")) {fd : FuncData} (F : FunD K "best_in" "best_in" (defArgs s_best_in) (defBody s_best_in) (defScope s_best_in) [] [] (He.ga K "best_in") fd) (hx : mg "best_in" = some (.ref (He.ga K "best_in"))) : DF P w K mg base 14 "best_in" s_best_in ["versions", "text"] m_best_in :=
  DF.ofT F hx sc_best_in (fun _ _ _ _ _ _ us h => match us, h with | [_, _], _ => rfl) (fun ds s h => match ds, h with | [], _ => rfl | [_], _ => rfl | [_, _], h => absurd rfl h | _ :: _ :: _ :: _, _ => rfl) fun cdv A outer s H E ds ec hl hr => match ds, hl with | [a_versions, a_text], _ => b_best_in G D_parts_in D_key_of D_are_versions D_rows_of D_has_parts ec TB hr a_versions a_text
/-! _law_same -/
abbrev s__law_same : Stmt := top 47
theorem sc__law_same : FnScope ["told", "due", "k"] ["told", "due"] (defScope s__law_same) := ⟨rfl, rfl, rfl, by decide +kernel, rfl, by decide +kernel, by decide +kernel⟩
def m__law_same : Nat → List D → M D
  | n + 1, [a_told, a_due] => (((pure a_due >>= fun d => pure (Op.isNon d)) >>= fun c => if c then pure true else ((pure a_due >>= Bi.isi "bool") >>= truthB)) >>= fun b => if b then ((pure a_due >>= fun d => pure (Op.isNon d)) >>= fun t => if t then (pure a_told >>= fun d => pure (D.bl (Op.isNon d))) else ((pure a_told >>= Bi.isi "bool") >>= fun d => truthB d >>= fun c => if c then ((pure a_told >>= fun x7 => pure (D.bl true) >>= fun y8 => Op.isBl x7 y8) >>= fun x11 => (pure a_due >>= fun x9 => pure (D.bl true) >>= fun y10 => Op.isBl x9 y10) >>= fun y12 => Op.eq x11 y12) else pure (D.bl false))) else (((pure a_due >>= Bi.isi "int") >>= truthB) >>= fun b => if b then ((pure a_told >>= Bi.isi "int") >>= fun d => truthB d >>= fun c => if c then (((pure a_told >>= Bi.isi "bool") >>= fun d => truthB d >>= fun c => pure (D.bl (!c))) >>= fun d => truthB d >>= fun c => if c then ((((pure a_told >>= fun x18 => pure [] >>= fun x18s => pure (x18 :: x18s)) >>= Bi.int) >>= fun x19 => pure a_due >>= fun y20 => Op.sub x19 y20) >>= fun x21 => pure (D.int 0) >>= fun y22 => Op.eq x21 y22) else pure (D.bl false)) else pure (D.bl false)) else (((pure a_due >>= Bi.isi "str") >>= truthB) >>= fun b => if b then ((pure a_told >>= Bi.isi "str") >>= fun d => truthB d >>= fun c => if c then ((((pure a_told >>= fun x42 => pure [] >>= fun x42s => pure (x42 :: x42s)) >>= Bi.len) >>= fun x44 => ((pure a_due >>= fun x43 => pure [] >>= fun x43s => pure (x43 :: x43s)) >>= Bi.len) >>= fun y45 => Op.eq x44 y45) >>= fun d => truthB d >>= fun c => if c then ((((((pure a_due >>= fun x47 => pure [] >>= fun x47s => pure (x47 :: x47s)) >>= Bi.len) >>= fun x46 => pure [] >>= fun x46s => pure (x46 :: x46s)) >>= rng1) >>= comp fun x58 => (fun d => pure d) x58 >>= fun b48 => ((pure a_told >>= fun x53 => (pure b48 >>= fun x49 => Op.asInt x49 >>= fun i => pure (some i)) >>= fun lx53 => ((pure b48 >>= fun x50 => pure (D.int 1) >>= fun y51 => Op.add x50 y51) >>= fun x52 => Op.asInt x52 >>= fun i => pure (some i)) >>= fun hx53 => Op.slc x53 lx53 hx53) >>= fun x56 => (pure a_due >>= fun x54 => pure b48 >>= fun y55 => Op.idx x54 y55) >>= fun y57 => Op.ne x56 y57 >>= truthB) >>= fun b => if b then pure b48 >>= fun y => pure (some y) else pure none) >>= fun x59 => (pure [] >>= Op.mkL) >>= fun y60 => Op.eq x59 y60) else pure (D.bl false)) else pure (D.bl false)) else ((((pure a_told >>= Bi.isi "list") >>= fun x61 => (pure a_due >>= Bi.isi "list") >>= fun y62 => Op.ne x61 y62 >>= truthB) >>= fun c => if c then pure true else ((pure a_told >>= Bi.isi "tuple") >>= fun x63 => (pure a_due >>= Bi.isi "tuple") >>= fun y64 => Op.ne x63 y64 >>= truthB)) >>= fun b => if b then pure (D.bl false) else ((((pure a_told >>= fun x81 => pure [] >>= fun x81s => pure (x81 :: x81s)) >>= Bi.len) >>= fun x83 => ((pure a_due >>= fun x82 => pure [] >>= fun x82s => pure (x82 :: x82s)) >>= Bi.len) >>= fun y84 => Op.eq x83 y84) >>= fun d => truthB d >>= fun c => if c then ((((((pure a_due >>= fun x86 => pure [] >>= fun x86s => pure (x86 :: x86s)) >>= Bi.len) >>= fun x85 => pure [] >>= fun x85s => pure (x85 :: x85s)) >>= rng1) >>= comp fun x94 => (fun d => pure d) x94 >>= fun b87 => (((((pure a_told >>= fun x89 => pure b87 >>= fun y90 => Op.idx x89 y90) >>= fun x88 => ((pure a_due >>= fun x92 => pure b87 >>= fun y93 => Op.idx x92 y93) >>= fun x91 => pure [] >>= fun x91s => pure (x91 :: x91s)) >>= fun x88s => pure (x88 :: x88s)) >>= m__law_same n) >>= truthB) >>= fun b => pure (!b)) >>= fun b => if b then pure b87 >>= fun y => pure (some y) else pure none) >>= fun x95 => (pure [] >>= Op.mkL) >>= fun y96 => Op.eq x95 y96) else pure (D.bl false))))))
  | _, _ => M.bad
theorem b__law_same {P : Program} {w : World} {K : PySem.W.Frag} {mg : Str → Option Value} {base : Heap} (G : Fx K mg)  {n kk : Nat} (IH : DF P w K mg base kk "_law_same" s__law_same ["told", "due"] (m__law_same n)) (hk : 2 ≤ kk) {f : Addr} {cdv : Value} {A : Around} {outer : List Env} {s : Shared} {H : Hp} {E : XK} (hr : Room kk (A.deeper (envOfC "_law_same" (defScope s__law_same) s.heap.objs.size f cdv))) (a_told a_due : D) :
  JC (cxOf (L2.CX P w) P w K mg base ["told", "due", "k"] "_law_same" (defScope s__law_same) f cdv A outer s H E) (fun c d _ H2 => E c d H2) (List.replicate 3 none) [some (.val a_told), some (.val a_due), none] (defBody s__law_same) U0 (m__law_same (n + 1) [a_told, a_due]) .fin := by
  have tk : Takes (cxOf (L2.CX P w) P w K mg base ["told", "due", "k"] "_law_same" (defScope s__law_same) f cdv A outer s H E) (fun c d _ H2 => E c d H2) := takes_of rfl rfl rfl rfl
  exact (jc_if (by first | exact weak_none rfl | exact Weak.rfl) (jt_w (jw_or (jt_isNone (JE.b (je_name 1))) (jw_or1 (jt_bool (je_isi (T := "bool") (by decide) rfl G.f_isinstance rfl G.f_bool (by decide +kernel) (JE.b (je_name 1))))))) (jc_retF (by first | exact weak_none rfl | exact Weak.rfl) (je_if (jt_isNone (JE.b (je_name 1))) (je_isNone (JE.b (je_name 0))) (je_and (je_isi (T := "bool") (by decide) rfl G.f_isinstance rfl G.f_bool (by decide +kernel) (JE.b (je_name 0))) (je_one (je_cmp (od_eq hr.units) nx_eq (JE.b (je_cmp od_isBl nx_isBl (JE.b (je_name 0)) (JE.b je_bl) rfl)) (JE.b (je_cmp od_isBl nx_isBl (JE.b (je_name 1)) (JE.b je_bl) rfl)) rfl))))) (jc_end (jc_if (by first | exact weak_none rfl | exact Weak.rfl) (jt_bool (je_isi (T := "int") (by decide) rfl G.f_isinstance rfl G.f_int (by decide +kernel) (JE.b (je_name 1)))) (jc_retF (by first | exact weak_none rfl | exact Weak.rfl) (je_and (je_isi (T := "int") (by decide) rfl G.f_isinstance rfl G.f_int (by decide +kernel) (JE.b (je_name 0))) (je_and (je_not (je_isi (T := "bool") (by decide) rfl G.f_isinstance rfl G.f_bool (by decide +kernel) (JE.b (je_name 0)))) (je_one (je_cmp (od_eq hr.units) nx_eq (JE.b (je_op od_sub nx_sub (JE.b (je_callTy cd_int nx_int rfl G.f_int (by decide +kernel) (jab_cons (JE.b (je_name 0)) jab_nil))) (JE.b (je_name 1)))) (JE.b je_int) rfl))))) (jc_end (jc_if (by first | exact weak_none rfl | exact Weak.rfl) (jt_bool (je_isi (T := "str") (by decide) rfl G.f_isinstance rfl G.f_str (by decide +kernel) (JE.b (je_name 1)))) (jc_retF (by first | exact weak_none rfl | exact Weak.rfl) (je_and (je_isi (T := "str") (by decide) rfl G.f_isinstance rfl G.f_str (by decide +kernel) (JE.b (je_name 0))) (je_and (je_cmp (od_eq hr.units) nx_eq (JE.b (je_callB cd_len nx_len rfl G.f_len (by decide +kernel) (jab_cons (JE.b (je_name 0)) jab_nil))) (JE.b (je_callB cd_len nx_len rfl G.f_len (by decide +kernel) (jab_cons (JE.b (je_name 1)) jab_nil))) rfl) (je_one (je_cmp (od_eq hr.units) nx_eq (JE.b (JF.je (jf_lc (own := [("k", 2)]) rfl sc__law_same.nd (JI.b (ji_range1 rfl G.f_range (jab_cons (JE.b (je_callB cd_len nx_len rfl G.f_len (by decide +kernel) (jab_cons (JE.b (je_name 1)) jab_nil))) jab_nil))) (blk_of (by kernel_rfl)) (fun _ _ _ _ _ => (pg_name (i := 2) sc__law_same.nd rfl (by first | exact Or.inl rfl | exact Or.inr rfl))) (go_name _ 2) (by simp) (fun _ _ _ _ _ b48 => (t1 (jt_cmp (od_ne hr.units) nx_ne (JE.b (je_slice (JE.b (je_name 0)) (jo_some (je_name 2)) (jo_some (je_op od_add nx_add (JE.b (je_name 2)) (JE.b je_int))))) (JE.b (je_ix (JE.b (je_name 1)) (JE.b (je_name 2)) (fun _ _ => rfl))) rfl))) (fun _ _ _ _ _ b48 => (je_name 2))))) (JE.b (je_lst ja_nil)) rfl))))) (jc_end (jc_if (by first | exact weak_none rfl | exact Weak.rfl) (jt_w (jw_or (jt_cmp (od_ne hr.units) nx_ne (JE.b (je_isi (T := "list") (by decide) rfl G.f_isinstance rfl G.f_list (by decide +kernel) (JE.b (je_name 0)))) (JE.b (je_isi (T := "list") (by decide) rfl G.f_isinstance rfl G.f_list (by decide +kernel) (JE.b (je_name 1)))) rfl) (jw_or1 (jt_cmp (od_ne hr.units) nx_ne (JE.b (je_isi (T := "tuple") (by decide) rfl G.f_isinstance rfl G.f_tuple (by decide +kernel) (JE.b (je_name 0)))) (JE.b (je_isi (T := "tuple") (by decide) rfl G.f_isinstance rfl G.f_tuple (by decide +kernel) (JE.b (je_name 1)))) rfl)))) (jc_retF (by first | exact weak_none rfl | exact Weak.rfl) je_bl) (jc_end (jc_retF (by first | exact weak_none rfl | exact Weak.rfl) (je_and (je_cmp (od_eq hr.units) nx_eq (JE.b (je_callB cd_len nx_len rfl G.f_len (by decide +kernel) (jab_cons (JE.b (je_name 0)) jab_nil))) (JE.b (je_callB cd_len nx_len rfl G.f_len (by decide +kernel) (jab_cons (JE.b (je_name 1)) jab_nil))) rfl) (je_one (je_cmp (od_eq hr.units) nx_eq (JE.b (JF.je (jf_lc (own := [("k", 2)]) rfl sc__law_same.nd (JI.b (ji_range1 rfl G.f_range (jab_cons (JE.b (je_callB cd_len nx_len rfl G.f_len (by decide +kernel) (jab_cons (JE.b (je_name 1)) jab_nil))) jab_nil))) (blk_of (by kernel_rfl)) (fun _ _ _ _ _ => (pg_name (i := 2) sc__law_same.nd rfl (by first | exact Or.inl rfl | exact Or.inr rfl))) (go_name _ 2) (by simp) (fun _ _ _ _ _ b87 => (t1 (jt_not (jt_bool (je_call IH (hr.mono (by omega)) takes_none5 rfl (ja_cons (je_ix (JE.b (je_name 0)) (JE.b (je_name 2)) (fun _ _ => rfl)) (ja_cons (je_ix (JE.b (je_name 1)) (JE.b (je_name 2)) (fun _ _ => rfl)) ja_nil))))))) (fun _ _ _ _ _ b87 => (je_name 2))))) (JE.b (je_lst ja_nil)) rfl))))))))))))
theorem d__law_same {P : Program} {w : World} {K : PySem.W.Frag} {mg : Str → Option Value} {base : Heap} (G : Fx K mg)  {f : Addr} {fd : FuncData} (F : FunD K "_law_same" "_law_same" (defArgs s__law_same) (defBody s__law_same) (defScope s__law_same) [] [] f fd) (hx : mg "_law_same" = some (.ref f)) : ∀ n : Nat, DF P w K mg base (2 + n) "_law_same" s__law_same ["told", "due"] (m__law_same n)
  | 0 => DF.mono (k := 1) (DF.of (k := 0) F hx sc__law_same (fun _ _ _ _ _ _ us h => match us, h with | [_, _], _ => rfl) (fun ds s h => rfl) fun cdv A outer s H E ds hl hr => (by first | exact jc_bad | (unfold m__law_same; exact jc_bad))) (by omega)
  | n + 1 => DF.mono (DF.of F hx sc__law_same (fun _ _ _ _ _ _ us h => match us, h with | [_, _], _ => rfl) (fun ds s h => match ds, h with | [], _ => rfl | [_], _ => rfl | [_, _], h => absurd rfl h | _ :: _ :: _ :: _, _ => rfl) fun cdv A outer s H E ds hl hr => match ds, hl with | [a_told, a_due], _ => b__law_same G  (d__law_same G  F hx n) (by omega) hr a_told a_due) (by omega)
/-! _law_said -/
abbrev s__law_said : Stmt := top 64
theorem sc__law_said : FnScope ["way", "one", "text", "e"] ["way", "one", "text"] (defScope s__law_said) := ⟨rfl, rfl, rfl, by decide +kernel, rfl, by decide +kernel, by decide +kernel⟩
def m__law_said : List D → M D
  | [a_way, a_one, a_text] => ((tryM exKnown [(("InvalidVersion" : Str), fun fs => (((pure (D.str ("version" : Str)) >>= fun x46 => ((fldM ("given" : Str) fs) >>= fun x47 => pure [] >>= fun x47s => pure (x47 :: x47s)) >>= fun x46s => pure (x46 :: x46s)) >>= Op.mkL) >>= fun d => pure (Fl.rt d))), (("InvalidVersions" : Str), fun fs => (((pure (D.str ("versions" : Str)) >>= fun x42 => ((fldM ("given" : Str) fs) >>= fun x43 => pure [] >>= fun x43s => pure (x43 :: x43s)) >>= fun x42s => pure (x42 :: x42s)) >>= Op.mkL) >>= fun d => pure (Fl.rt d))), (("InvalidRange" : Str), fun fs => (((pure (D.str ("range" : Str)) >>= fun x38 => ((fldM ("given" : Str) fs) >>= fun x39 => pure [] >>= fun x39s => pure (x39 :: x39s)) >>= fun x38s => pure (x38 :: x38s)) >>= Op.mkL) >>= fun d => pure (Fl.rt d)))] ((pure a_way >>= fun x2 => pure (D.int 2) >>= fun y3 => Op.ltG x2 y3 >>= truthB) >>= fun b => if b then (((pure (D.str ("told" : Str)) >>= fun x12 => (((pure a_way >>= fun x14 => pure (D.int 0) >>= fun y15 => Op.eq x14 y15 >>= truthB) >>= fun t => if t then ((pure a_one >>= fun x16 => (pure a_text >>= fun x17 => pure [] >>= fun x17s => pure (x17 :: x17s)) >>= fun x16s => pure (x16 :: x16s)) >>= m_in_range) else ((pure a_text >>= fun x19 => (pure a_one >>= fun x18 => pure [] >>= fun x18s => pure (x18 :: x18s)) >>= fun x19s => pure (x19 :: x19s)) >>= fun zs => if zs.length = (["text", "version"] : List Str).length then m_in_range (kwRev [] zs) else M.bad)) >>= fun x13 => pure [] >>= fun x13s => pure (x13 :: x13s)) >>= fun x12s => pure (x12 :: x12s)) >>= Op.mkL) >>= fun d => pure (Fl.rt d)) else (((pure (D.str ("told" : Str)) >>= fun x28 => (((pure a_way >>= fun x30 => pure (D.int 2) >>= fun y31 => Op.eq x30 y31 >>= truthB) >>= fun t => if t then ((pure a_one >>= fun x32 => (pure a_text >>= fun x33 => pure [] >>= fun x33s => pure (x33 :: x33s)) >>= fun x32s => pure (x32 :: x32s)) >>= m_best_in) else ((pure a_text >>= fun x35 => (pure a_one >>= fun x34 => pure [] >>= fun x34s => pure (x34 :: x34s)) >>= fun x35s => pure (x35 :: x35s)) >>= fun zs => if zs.length = (["text", "versions"] : List Str).length then m_best_in (kwRev [] zs) else M.bad)) >>= fun x29 => pure [] >>= fun x29s => pure (x29 :: x29s)) >>= fun x28s => pure (x28 :: x28s)) >>= Op.mkL) >>= fun d => pure (Fl.rt d)))) >>= flK (fun (t1 : Unit) => pure D.non) (fun d => d))
  | _ => M.bad
theorem b__law_said {P : Program} {w : World} {K : PySem.W.Frag} {mg : Str → Option Value} {base : Heap} (G : Fx K mg) (D_in_range : DF P w K mg base 11 "in_range" s_in_range ["version", "text"] m_in_range) (D_best_in : DF P w K mg base 14 "best_in" s_best_in ["versions", "text"] m_best_in) {f : Addr} {cdv : Value} {A : Around} {outer : List Env} {s : Shared} {H : Hp} {E : XK} (hr : Room 14 (A.deeper (envOfC "_law_said" (defScope s__law_said) s.heap.objs.size f cdv))) (a_way a_one a_text : D) :
  JC (cxOf (L2.CX P w) P w K mg base ["way", "one", "text", "e"] "_law_said" (defScope s__law_said) f cdv A outer s H E) (fun c d _ H2 => E c d H2) (List.replicate 4 none) [some (.val a_way), some (.val a_one), some (.val a_text), none] (defBody s__law_said) U0 (m__law_said [a_way, a_one, a_text]) .fin := by
  have tk : Takes (cxOf (L2.CX P w) P w K mg base ["way", "one", "text", "e"] "_law_said" (defScope s__law_said) f cdv A outer s H E) (fun c d _ H2 => E c d H2) := takes_of rfl rfl rfl rfl
  exact (jc_fl2 (r := (fun d => d)) (j1_try (xb := [some (.val a_way), some (.val a_one), some (.val a_text), none]) (dec := decF (fun (t1 : Unit) => ([some (.val a_way), some (.val a_one), some (.val a_text), none] : EnvD))) rfl rfl sc__law_said.nd tk (by first | exact weak_none rfl | exact Weak.rfl) (fun c hc y hy => G.exm c hc y ((by decide : ∀ y ∈ ([("InvalidVersion" : Str), ("InvalidVersions" : Str), ("InvalidRange" : Str)] : List Str), y ∈ exKnown) y hy)) (fun W2 pn xe2 tk2 => (jc_if (by first | exact weak_none rfl | exact Weak.rfl) (jt_cmp (od_ltG hr.units) nx_ltG (JE.b (je_name 0)) (JE.b je_int) rfl) (jc_ret (r := Fl.rt) (by first | exact weak_none rfl | exact Weak.rfl) (je_lst (ja_cons je_str (ja_cons (je_if (jt_cmp (od_eq hr.units) nx_eq (JE.b (je_name 0)) (JE.b je_int) rfl) (je_call D_in_range (hr.mono (by omega)) tk2 rfl (ja_cons (je_name 1) (ja_cons (je_name 2) ja_nil))) (je_callK0 (f := m_in_range) (gg := (fun {_} xs ys => kwRev xs ys)) (ks := (["text", "version"] : List Str)) D_in_range (hr.mono (by omega)) tk2 rfl rfl kw_rev (fun _ _ _ _ _ _ ws h => match ws, h with | [_, _], _ => rfl) (jk_cons (je_name 2) (jk_cons (je_name 1) jk_nil)) rfl)) ja_nil))) (fun _ => .inl rfl)) (jc_end (jc_ret (r := Fl.rt) (by first | exact weak_none rfl | exact Weak.rfl) (je_lst (ja_cons je_str (ja_cons (je_if (jt_cmp (od_eq hr.units) nx_eq (JE.b (je_name 0)) (JE.b je_int) rfl) (je_call D_best_in (hr.mono (by omega)) tk2 rfl (ja_cons (je_name 1) (ja_cons (je_name 2) ja_nil))) (je_callK0 (f := m_best_in) (gg := (fun {_} xs ys => kwRev xs ys)) (ks := (["text", "versions"] : List Str)) D_best_in (hr.mono (by omega)) tk2 rfl rfl kw_rev (fun _ _ _ _ _ _ ws h => match ws, h with | [_, _], _ => rfl) (jk_cons (je_name 2) (jk_cons (je_name 1) jk_nil)) rfl)) ja_nil))) (fun _ => .inl rfl))))) (Clauses.cons (i := 3) (dec1 := decF (fun (t1 : Unit) => ([some (.val a_way), some (.val a_one), some (.val a_text), none] : EnvD))) rfl rfl ⟨rfl, by decide, Or.inl G.e_InvalidVersion.gC⟩ (fun a => by cases a <;> rfl) (fun a oe c d pn fs hs hz hf => by obtain rfl := exSub_eq hs (by decide); exact (jc_ret (r := Fl.rt) (by first | exact weak_none rfl | exact Weak.rfl) (je_lst (ja_cons je_str (ja_cons (je_fld G.e_InvalidVersion hz hf (i := 3) rfl rfl (Or.inl rfl)) ja_nil))) (fun _ => .inl rfl))) (Clauses.cons (i := 3) (dec1 := decF (fun (t1 : Unit) => ([some (.val a_way), some (.val a_one), some (.val a_text), none] : EnvD))) rfl rfl ⟨rfl, by decide, Or.inl G.e_InvalidVersions.gC⟩ (fun a => by cases a <;> rfl) (fun a oe c d pn fs hs hz hf => by obtain rfl := exSub_eq hs (by decide); exact (jc_ret (r := Fl.rt) (by first | exact weak_none rfl | exact Weak.rfl) (je_lst (ja_cons je_str (ja_cons (je_fld G.e_InvalidVersions hz hf (i := 3) rfl rfl (Or.inl rfl)) ja_nil))) (fun _ => .inl rfl))) (Clauses.cons (i := 3) (dec1 := decF (fun (t1 : Unit) => ([some (.val a_way), some (.val a_one), some (.val a_text), none] : EnvD))) rfl rfl ⟨rfl, by decide, Or.inl G.e_InvalidRange.gC⟩ (fun a => by cases a <;> rfl) (fun a oe c d pn fs hs hz hf => by obtain rfl := exSub_eq hs (by decide); exact (jc_ret (r := Fl.rt) (by first | exact weak_none rfl | exact Weak.rfl) (je_lst (ja_cons je_str (ja_cons (je_fld G.e_InvalidRange hz hf (i := 3) rfl rfl (Or.inl rfl)) ja_nil))) (fun _ => .inl rfl))) Clauses.nil)))) (fun t1 => (jc_nilF rfl)) (fun _ => .inr rfl))
theorem d__law_said {P : Program} {w : World} {K : PySem.W.Frag} {mg : Str → Option Value} {base : Heap} (G : Fx K mg) (D_in_range : DF P w K mg base 11 "in_range" s_in_range ["version", "text"] m_in_range) (D_best_in : DF P w K mg base 14 "best_in" s_best_in ["versions", "text"] m_best_in) {f : Addr} {fd : FuncData} (F : FunD K "_law_said" "_law_said" (defArgs s__law_said) (defBody s__law_said) (defScope s__law_said) [] [] f fd) (hx : mg "_law_said" = some (.ref f)) : DF P w K mg base 15 "_law_said" s__law_said ["way", "one", "text"] m__law_said :=
  DF.of F hx sc__law_said (fun _ _ _ _ _ _ us h => match us, h with | [_, _, _], _ => rfl) (fun ds s h => match ds, h with | [], _ => rfl | [_], _ => rfl | [_, _], _ => rfl | [_, _, _], h => absurd rfl h | _ :: _ :: _ :: _ :: _, _ => rfl) fun cdv A outer s H E ds hl hr => match ds, hl with | [a_way, a_one, a_text], _ => b__law_said G D_in_range D_best_in hr a_way a_one a_text
/-! _law_refused -/
abbrev s__law_refused : Stmt := top 67
theorem sc__law_refused : FnScope ["box", "text", "texts", "version", "bad", "good", "odd", "way", "wrong", "worse", "first", "name"] ["box", "text", "texts", "version"] (defScope s__law_refused) := ⟨rfl, rfl, rfl, by decide +kernel, rfl, by decide +kernel, by decide +kernel⟩
def m__law_refused : List D → M D
  | [a_box, a_text, a_texts, a_version] => (((pure a_box >>= fun x4 => (pure a_text >>= fun x5 => pure [] >>= fun x5s => pure (x5 :: x5s)) >>= fun x4s => pure (x4 :: x4s)) >>= m__law_bent) >>= fun v3 => ((((pure v3 >>= fun x8 => pure [] >>= fun x8s => pure (x8 :: x8s)) >>= m__law_rows) >>= fun d => pure (D.bl (!Op.isNon d))) >>= fun v7 => (((((((((pure v3 >>= fun x11 => pure [] >>= fun x11s => pure (x11 :: x11s)) >>= m_is_range) >>= fun x10 => (((pure v3 >>= fun x13 => pure [] >>= fun x13s => pure (x13 :: x13s)) >>= fun zs => if zs.length = (["value"] : List Str).length then m_is_range ([] ++ zs) else M.bad) >>= fun x12 => pure [] >>= fun x12s => pure (x12 :: x12s)) >>= fun x10s => pure (x10 :: x10s)) >>= Op.mkL) >>= fun x9 => (((pure v7 >>= fun x15 => (pure v7 >>= fun x16 => pure [] >>= fun x16s => pure (x16 :: x16s)) >>= fun x15s => pure (x15 :: x15s)) >>= Op.mkL) >>= fun x14 => pure [] >>= fun x14s => pure (x14 :: x14s)) >>= fun x9s => pure (x9 :: x9s)) >>= (m__law_same 12)) >>= truthB) >>= fun b => pure (!b)) >>= fun b => if b then pure (D.bl false) else ((((pure D.non >>= fun x47 => (pure (D.int 0) >>= fun x48 => (pure (D.bl true) >>= fun x49 => (pure (D.str ("" : Str)) >>= fun x50 => (pure (D.str (" " : Str)) >>= fun x51 => (pure (D.str ("||" : Str)) >>= fun x52 => (pure (D.str ("1.0.0" : Str)) >>= fun x53 => (pure (D.str (">=1.0.0-a" : Str)) >>= fun x54 => (pure (D.str ("^" : Str)) >>= fun x55 => (pure (D.str ("* || " : Str)) >>= fun x56 => (pure (D.dct []) >>= fun x57 => (((pure (D.str ("*" : Str)) >>= fun x59 => pure [] >>= fun x59s => pure (x59 :: x59s)) >>= Op.mkL) >>= fun x58 => (((pure (D.str ("*" : Str)) >>= fun x61 => pure [] >>= fun x61s => pure (x61 :: x61s)) >>= Op.mkT) >>= fun x60 => ((pure (D.str ("*" : Str)) >>= fun x65 => (pure (D.str (" *" : Str)) >>= fun x63 => pure (D.int 4) >>= fun y64 => Op.mul x63 y64) >>= fun y66 => Op.add x65 y66) >>= fun x62 => ((pure (D.str ("=1.0.0" : Str)) >>= fun x70 => (pure (D.str (" || =1.0.0" : Str)) >>= fun x68 => pure (D.int 4) >>= fun y69 => Op.mul x68 y69) >>= fun y71 => Op.add x70 y71) >>= fun x67 => pure [] >>= fun x67s => pure (x67 :: x67s)) >>= fun x62s => pure (x62 :: x62s)) >>= fun x60s => pure (x60 :: x60s)) >>= fun x58s => pure (x58 :: x58s)) >>= fun x57s => pure (x57 :: x57s)) >>= fun x56s => pure (x56 :: x56s)) >>= fun x55s => pure (x55 :: x55s)) >>= fun x54s => pure (x54 :: x54s)) >>= fun x53s => pure (x53 :: x53s)) >>= fun x52s => pure (x52 :: x52s)) >>= fun x51s => pure (x51 :: x51s)) >>= fun x50s => pure (x50 :: x50s)) >>= fun x49s => pure (x49 :: x49s)) >>= fun x48s => pure (x48 :: x48s)) >>= fun x47s => pure (x47 :: x47s)) >>= Op.mkL) >>= fun x74 => ((pure a_box >>= fun x72 => (pure (D.int 15) >>= fun x73 => pure [] >>= fun x73s => pure (x73 :: x73s)) >>= fun x72s => pure (x72 :: x72s)) >>= m__law_take) >>= fun y75 => Op.idx x74 y75) >>= fun v46 => (((((((((pure v46 >>= fun x78 => pure [] >>= fun x78s => pure (x78 :: x78s)) >>= m_is_range) >>= fun x77 => (((pure v46 >>= fun x80 => pure [] >>= fun x80s => pure (x80 :: x80s)) >>= fun zs => if zs.length = (["value"] : List Str).length then m_is_range ([] ++ zs) else M.bad) >>= fun x79 => pure [] >>= fun x79s => pure (x79 :: x79s)) >>= fun x77s => pure (x77 :: x77s)) >>= Op.mkL) >>= fun x76 => (((pure (D.bl false) >>= fun x82 => (pure (D.bl false) >>= fun x83 => pure [] >>= fun x83s => pure (x83 :: x83s)) >>= fun x82s => pure (x82 :: x82s)) >>= Op.mkL) >>= fun x81 => pure [] >>= fun x81s => pure (x81 :: x81s)) >>= fun x76s => pure (x76 :: x76s)) >>= (m__law_same 12)) >>= truthB) >>= fun b => pure (!b)) >>= fun b => if b then pure (D.bl false) else ((((pure D.non >>= fun x84 => (pure (D.int 0) >>= fun x85 => (pure (D.str ("" : Str)) >>= fun x86 => (pure (D.str ("1.0" : Str)) >>= fun x87 => (pure (D.str ("1.0.0-" : Str)) >>= fun x88 => (pure (D.dct []) >>= fun x89 => (((pure (D.str ("1.0.0" : Str)) >>= fun x91 => pure [] >>= fun x91s => pure (x91 :: x91s)) >>= Op.mkL) >>= fun x90 => (pure (D.bl true) >>= fun x92 => pure [] >>= fun x92s => pure (x92 :: x92s)) >>= fun x90s => pure (x90 :: x90s)) >>= fun x89s => pure (x89 :: x89s)) >>= fun x88s => pure (x88 :: x88s)) >>= fun x87s => pure (x87 :: x87s)) >>= fun x86s => pure (x86 :: x86s)) >>= fun x85s => pure (x85 :: x85s)) >>= fun x84s => pure (x84 :: x84s)) >>= Op.mkL) >>= fun x95 => ((pure a_box >>= fun x93 => (pure (D.int 8) >>= fun x94 => pure [] >>= fun x94s => pure (x94 :: x94s)) >>= fun x93s => pure (x93 :: x93s)) >>= m__law_take) >>= fun y96 => Op.idx x95 y96) >>= fun v117 => (((pure D.non >>= fun x97 => (pure (D.str ("1.0.0" : Str)) >>= fun x98 => (((pure a_texts >>= fun x100 => pure [] >>= fun x100s => pure (x100 :: x100s)) >>= Bi.list) >>= fun x99 => ((pure a_texts >>= fun x103 => ((pure (D.str ("1" : Str)) >>= fun x102 => pure [] >>= fun x102s => pure (x102 :: x102s)) >>= Op.mkT) >>= fun y104 => Op.add x103 y104) >>= fun x101 => ((((pure (D.str ("1.0.0" : Str)) >>= fun x106 => pure [] >>= fun x106s => pure (x106 :: x106s)) >>= Op.mkT) >>= fun x107 => pure (D.int 21) >>= fun y108 => Op.mul x107 y108) >>= fun x105 => (pure (D.dct []) >>= fun x109 => (pure (D.int 0) >>= fun x110 => (((pure D.non >>= fun x112 => pure [] >>= fun x112s => pure (x112 :: x112s)) >>= Op.mkT) >>= fun x111 => pure [] >>= fun x111s => pure (x111 :: x111s)) >>= fun x110s => pure (x110 :: x110s)) >>= fun x109s => pure (x109 :: x109s)) >>= fun x105s => pure (x105 :: x105s)) >>= fun x101s => pure (x101 :: x101s)) >>= fun x99s => pure (x99 :: x99s)) >>= fun x98s => pure (x98 :: x98s)) >>= fun x97s => pure (x97 :: x97s)) >>= Op.mkL) >>= fun x115 => ((pure a_box >>= fun x113 => (pure (D.int 8) >>= fun x114 => pure [] >>= fun x114s => pure (x114 :: x114s)) >>= fun x113s => pure (x113 :: x113s)) >>= m__law_take) >>= fun y116 => Op.idx x115 y116) >>= fun v118 => ((((pure (D.int 4) >>= fun x120 => pure [] >>= fun x120s => pure (x120 :: x120s)) >>= rng1) >>= fun xs => forF (fun x163 (t119 : Unit) => (fun d => pure d) x163 >>= fun b121 => (((pure b121 >>= fun x122 => pure (D.int 2) >>= fun y123 => Op.ltG x122 y123 >>= truthB) >>= fun t => if t then ((pure a_version >>= fun x124 => (pure v117 >>= fun x125 => pure [] >>= fun x125s => pure (x125 :: x125s)) >>= fun x124s => pure (x124 :: x124s)) >>= Op.mkT) else ((pure a_texts >>= fun x126 => (pure v118 >>= fun x127 => pure [] >>= fun x127s => pure (x127 :: x127s)) >>= fun x126s => pure (x126 :: x126s)) >>= Op.mkT)) >>= fun v130 => ((pure b121 >>= fun x128 => pure (D.int 2) >>= fun y129 => Op.ltG x128 y129 >>= truthB) >>= fun t => if t then pure (D.str ("version" : Str)) else pure (D.str ("versions" : Str))) >>= fun v131 => (((((((((pure b121 >>= fun x134 => ((pure v130 >>= fun x136 => pure (D.int 0) >>= fun y137 => Op.idx x136 y137) >>= fun x135 => (pure v46 >>= fun x138 => pure [] >>= fun x138s => pure (x138 :: x138s)) >>= fun x135s => pure (x135 :: x135s)) >>= fun x134s => pure (x134 :: x134s)) >>= m__law_said) >>= fun x133 => (((pure b121 >>= fun x140 => ((pure v130 >>= fun x142 => pure (D.int 1) >>= fun y143 => Op.idx x142 y143) >>= fun x141 => (pure v46 >>= fun x144 => pure [] >>= fun x144s => pure (x144 :: x144s)) >>= fun x141s => pure (x141 :: x141s)) >>= fun x140s => pure (x140 :: x140s)) >>= m__law_said) >>= fun x139 => pure [] >>= fun x139s => pure (x139 :: x139s)) >>= fun x133s => pure (x133 :: x133s)) >>= Op.mkL) >>= fun x132 => (((((pure (D.str ("range" : Str)) >>= fun x147 => (pure v46 >>= fun x148 => pure [] >>= fun x148s => pure (x148 :: x148s)) >>= fun x147s => pure (x147 :: x147s)) >>= Op.mkL) >>= fun x146 => (((pure v131 >>= fun x150 => ((pure v130 >>= fun x152 => pure (D.int 1) >>= fun y153 => Op.idx x152 y153) >>= fun x151 => pure [] >>= fun x151s => pure (x151 :: x151s)) >>= fun x150s => pure (x150 :: x150s)) >>= Op.mkL) >>= fun x149 => pure [] >>= fun x149s => pure (x149 :: x149s)) >>= fun x146s => pure (x146 :: x146s)) >>= Op.mkL) >>= fun x145 => pure [] >>= fun x145s => pure (x145 :: x145s)) >>= fun x132s => pure (x132 :: x132s)) >>= (m__law_same 12)) >>= truthB) >>= fun b => pure (!b)) >>= fun b => if b then (pure (D.bl false) >>= fun d => pure (Fl.rt d)) else ((((pure v7 >>= truthB) >>= fun b => pure (!b)) >>= fun c => if c then ((((((pure b121 >>= fun x155 => ((pure v130 >>= fun x157 => pure (D.int 0) >>= fun y158 => Op.idx x157 y158) >>= fun x156 => (pure v3 >>= fun x159 => pure [] >>= fun x159s => pure (x159 :: x159s)) >>= fun x156s => pure (x156 :: x156s)) >>= fun x155s => pure (x155 :: x155s)) >>= m__law_said) >>= fun x154 => (((pure (D.str ("range" : Str)) >>= fun x161 => (pure v3 >>= fun x162 => pure [] >>= fun x162s => pure (x162 :: x162s)) >>= fun x161s => pure (x161 :: x161s)) >>= Op.mkL) >>= fun x160 => pure [] >>= fun x160s => pure (x160 :: x160s)) >>= fun x154s => pure (x154 :: x154s)) >>= (m__law_same 12)) >>= truthB) >>= fun b => pure (!b)) else pure false) >>= fun b => if b then (pure (D.bl false) >>= fun d => pure (Fl.rt d)) else pure (Fl.nx ()))))) xs ()) >>= flK (fun (t119 : Unit) => pure (D.bl true)) (fun d => d))))))))
  | _ => M.bad
theorem b__law_refused {P : Program} {w : World} {K : PySem.W.Frag} {mg : Str → Option Value} {base : Heap} (G : Fx K mg) (D_is_range : DF P w K mg base 10 "is_range" s_is_range ["value"] m_is_range) (D__law_take : DF P w K mg base 3 "_law_take" s__law_take ["box", "many"] m__law_take) (D__law_same : DF P w K mg base 14 "_law_same" s__law_same ["told", "due"] (m__law_same 12)) (D__law_rows : DF P w K mg base 7 "_law_rows" s__law_rows ["text"] m__law_rows) (D__law_said : DF P w K mg base 15 "_law_said" s__law_said ["way", "one", "text"] m__law_said) (D__law_bent : DF P w K mg base 5 "_law_bent" s__law_bent ["box", "text"] m__law_bent) {f : Addr} {cdv : Value} {A : Around} {outer : List Env} {s : Shared} {H : Hp} {E : XK} (hr : Room 15 (A.deeper (envOfC "_law_refused" (defScope s__law_refused) s.heap.objs.size f cdv))) (a_box a_text a_texts a_version : D) :
  JC (cxOf (L2.CX P w) P w K mg base ["box", "text", "texts", "version", "bad", "good", "odd", "way", "wrong", "worse", "first", "name"] "_law_refused" (defScope s__law_refused) f cdv A outer s H E) (fun c d _ H2 => E c d H2) (List.replicate 12 none) [some (.val a_box), some (.val a_text), some (.val a_texts), some (.val a_version), none, none, none, none, none, none, none, none] (defBody s__law_refused) U0 (m__law_refused [a_box, a_text, a_texts, a_version]) .fin := by
  have tk : Takes (cxOf (L2.CX P w) P w K mg base ["box", "text", "texts", "version", "bad", "good", "odd", "way", "wrong", "worse", "first", "name"] "_law_refused" (defScope s__law_refused) f cdv A outer s H E) (fun c d _ H2 => E c d H2) := takes_of rfl rfl rfl rfl
  exact (jc_set 4 (by first | exact weak_none rfl | exact Weak.rfl) sc__law_refused.nd (je_call D__law_bent (hr.mono (by omega)) tk rfl (ja_cons (je_name 0) (ja_cons (je_name 1) ja_nil))) (fun v3 => (jc_set 5 (by first | exact weak_none rfl | exact Weak.rfl) sc__law_refused.nd (je_isNotNone (JE.b (je_call D__law_rows (hr.mono (by omega)) tk rfl (ja_cons (je_name 4) ja_nil)))) (fun v7 => (jc_if (by first | exact weak_none rfl | exact Weak.rfl) (jt_not (jt_bool (je_call D__law_same (hr.mono (by omega)) tk rfl (ja_cons (je_lst (ja_cons (je_call D_is_range (hr.mono (by omega)) tk rfl (ja_cons (je_name 4) ja_nil)) (ja_cons (je_callK0 (f := m_is_range) (gg := (fun {_} xs ys => xs ++ ys)) (ks := (["value"] : List Str)) D_is_range (hr.mono (by omega)) tk rfl rfl kw_app (fun _ _ _ _ _ _ ws h => match ws, h with | [_], _ => rfl) (jk_cons (je_name 4) jk_nil) rfl) ja_nil))) (ja_cons (je_lst (ja_cons (je_name 5) (ja_cons (je_name 5) ja_nil))) ja_nil))))) (jc_retF (by first | exact weak_none rfl | exact Weak.rfl) je_bl) (jc_end (jc_set 6 (by first | exact weak_none rfl | exact Weak.rfl) sc__law_refused.nd (je_ix (JE.b (je_lst (ja_cons je_non (ja_cons je_int (ja_cons je_bl (ja_cons je_str (ja_cons je_str (ja_cons je_str (ja_cons je_str (ja_cons je_str (ja_cons je_str (ja_cons je_str (ja_cons je_dct0 (ja_cons (je_lst (ja_cons je_str ja_nil)) (ja_cons (je_tup (ja_cons je_str ja_nil)) (ja_cons (je_op od_add nx_add (JE.b je_str) (JE.b (je_op od_mul nx_mul (JE.b je_str) (JE.b je_int)))) (ja_cons (je_op od_add nx_add (JE.b je_str) (JE.b (je_op od_mul nx_mul (JE.b je_str) (JE.b je_int)))) ja_nil))))))))))))))))) (JE.b (je_call D__law_take (hr.mono (by omega)) tk rfl (ja_cons (je_name 0) (ja_cons je_int ja_nil)))) (fun _ _ => rfl)) (fun v46 => (jc_if (by first | exact weak_none rfl | exact Weak.rfl) (jt_not (jt_bool (je_call D__law_same (hr.mono (by omega)) tk rfl (ja_cons (je_lst (ja_cons (je_call D_is_range (hr.mono (by omega)) tk rfl (ja_cons (je_name 6) ja_nil)) (ja_cons (je_callK0 (f := m_is_range) (gg := (fun {_} xs ys => xs ++ ys)) (ks := (["value"] : List Str)) D_is_range (hr.mono (by omega)) tk rfl rfl kw_app (fun _ _ _ _ _ _ ws h => match ws, h with | [_], _ => rfl) (jk_cons (je_name 6) jk_nil) rfl) ja_nil))) (ja_cons (je_lst (ja_cons je_bl (ja_cons je_bl ja_nil))) ja_nil))))) (jc_retF (by first | exact weak_none rfl | exact Weak.rfl) je_bl) (jc_end (jc_par (ka := .v) (kb := .v) 8 9 (by first | exact weak_none rfl | exact Weak.rfl) rfl sc__law_refused.nd (JE.k (je_ix (JE.b (je_lst (ja_cons je_non (ja_cons je_int (ja_cons je_str (ja_cons je_str (ja_cons je_str (ja_cons je_dct0 (ja_cons (je_lst (ja_cons je_str ja_nil)) (ja_cons je_bl ja_nil)))))))))) (JE.b (je_call D__law_take (hr.mono (by omega)) tk rfl (ja_cons (je_name 0) (ja_cons je_int ja_nil)))) (fun _ _ => rfl))) (JE.k (je_ix (JE.b (je_lst (ja_cons je_non (ja_cons je_str (ja_cons (je_callTy cd_list nx_list rfl G.f_list (by decide +kernel) (jab_cons (JE.b (je_name 2)) jab_nil)) (ja_cons (je_op od_add nx_add (JE.b (je_name 2)) (JE.b (je_tup (ja_cons je_str ja_nil)))) (ja_cons (je_op od_mul nx_mul (JE.b (je_tup (ja_cons je_str ja_nil))) (JE.b je_int)) (ja_cons je_dct0 (ja_cons je_int (ja_cons (je_tup (ja_cons je_non ja_nil)) ja_nil)))))))))) (JE.b (je_call D__law_take (hr.mono (by omega)) tk rfl (ja_cons (je_name 0) (ja_cons je_int ja_nil)))) (fun _ _ => rfl))) (fun v117 v118 => (jc_fl2 (r := (fun d => d)) (j1_forF (eN := (fun (t119 : Unit) => ([some (.val a_box), some (.val a_text), some (.val a_texts), some (.val a_version), some (.val v3), some (.val v7), some (.val v46), none, some (.val v117), some (.val v118), none, none] : EnvD))) (t0 := ()) (passes_of rfl) rfl (by first | exact weak_none rfl | exact Weak.rfl) (ji_range1 rfl G.f_range (jab_cons (JE.b je_int) jab_nil)) (pg_name (i := 7) sc__law_refused.nd rfl (by first | exact Or.inl rfl | exact Or.inr rfl)) (go_name _ 7) (by repeat (first | exact Weak.nil | refine Weak.same ?_ | refine Weak.none ?_)) (fun t119 b121 => (jc_par (ka := .v) (kb := .v) 10 11 (by first | exact weak_none rfl | exact Weak.rfl) rfl sc__law_refused.nd (JE.k (je_if (jt_cmp (od_ltG hr.units) nx_ltG (JE.b (je_name 7)) (JE.b je_int) rfl) (je_tup (ja_cons (je_name 3) (ja_cons (je_name 8) ja_nil))) (je_tup (ja_cons (je_name 2) (ja_cons (je_name 9) ja_nil))))) (JE.k (je_if (jt_cmp (od_ltG hr.units) nx_ltG (JE.b (je_name 7)) (JE.b je_int) rfl) je_str je_str)) (fun v130 v131 => (jc_if (by first | exact weak_none rfl | exact Weak.rfl) (jt_not (jt_bool (je_call D__law_same (hr.mono (by omega)) tk rfl (ja_cons (je_lst (ja_cons (je_call D__law_said (hr.mono (by omega)) tk rfl (ja_cons (je_name 7) (ja_cons (je_ix (JE.b (je_name 10)) (JE.b je_int) (fun _ _ => rfl)) (ja_cons (je_name 6) ja_nil)))) (ja_cons (je_call D__law_said (hr.mono (by omega)) tk rfl (ja_cons (je_name 7) (ja_cons (je_ix (JE.b (je_name 10)) (JE.b je_int) (fun _ _ => rfl)) (ja_cons (je_name 6) ja_nil)))) ja_nil))) (ja_cons (je_lst (ja_cons (je_lst (ja_cons je_str (ja_cons (je_name 6) ja_nil))) (ja_cons (je_lst (ja_cons (je_name 11) (ja_cons (je_ix (JE.b (je_name 10)) (JE.b je_int) (fun _ _ => rfl)) ja_nil))) ja_nil))) ja_nil))))) (jc_ret (r := Fl.rt) (by first | exact weak_none rfl | exact Weak.rfl) je_bl (fun _ => .inl rfl)) (jc_end (jc_if (by first | exact weak_none rfl | exact Weak.rfl) (jt_w (jw_and (jt_not (jt_bool (je_name 5))) (jw_and1 (jt_not (jt_bool (je_call D__law_same (hr.mono (by omega)) tk rfl (ja_cons (je_call D__law_said (hr.mono (by omega)) tk rfl (ja_cons (je_name 7) (ja_cons (je_ix (JE.b (je_name 10)) (JE.b je_int) (fun _ _ => rfl)) (ja_cons (je_name 4) ja_nil)))) (ja_cons (je_lst (ja_cons je_str (ja_cons (je_name 4) ja_nil))) ja_nil)))))))) (jc_ret (r := Fl.rt) (by first | exact weak_none rfl | exact Weak.rfl) je_bl (fun _ => .inl rfl)) (jc_end (jc_nil (by repeat (first | exact Weak.nil | refine Weak.same ?_ | refine Weak.none ?_)) (.inr rfl))))))) rfl))) (fun t119 => (jc_retF (by first | exact weak_none rfl | exact Weak.rfl) je_bl)) (fun _ => .inr rfl))) rfl)))))))))))
theorem d__law_refused {P : Program} {w : World} {K : PySem.W.Frag} {mg : Str → Option Value} {base : Heap} (G : Fx K mg) (D_is_range : DF P w K mg base 10 "is_range" s_is_range ["value"] m_is_range) (D__law_take : DF P w K mg base 3 "_law_take" s__law_take ["box", "many"] m__law_take) (D__law_same : DF P w K mg base 14 "_law_same" s__law_same ["told", "due"] (m__law_same 12)) (D__law_rows : DF P w K mg base 7 "_law_rows" s__law_rows ["text"] m__law_rows) (D__law_said : DF P w K mg base 15 "_law_said" s__law_said ["way", "one", "text"] m__law_said) (D__law_bent : DF P w K mg base 5 "_law_bent" s__law_bent ["box", "text"] m__law_bent) {f : Addr} {fd : FuncData} (F : FunD K "_law_refused" "_law_refused" (defArgs s__law_refused) (defBody s__law_refused) (defScope s__law_refused) [] [] f fd) (hx : mg "_law_refused" = some (.ref f)) : DF P w K mg base 16 "_law_refused" s__law_refused ["box", "text", "texts", "version"] m__law_refused :=
  DF.of F hx sc__law_refused (fun _ _ _ _ _ _ us h => match us, h with | [_, _, _, _], _ => rfl) (fun ds s h => match ds, h with | [], _ => rfl | [_], _ => rfl | [_, _], _ => rfl | [_, _, _], _ => rfl | [_, _, _, _], h => absurd rfl h | _ :: _ :: _ :: _ :: _ :: _, _ => rfl) fun cdv A outer s H E ds hl hr => match ds, hl with | [a_box, a_text, a_texts, a_version], _ => b__law_refused G D_is_range D__law_take D__law_same D__law_rows D__law_said D__law_bent hr a_box a_text a_texts a_version
/-! _law_right -/
abbrev s__law_right : Stmt := top 66
theorem sc__law_right : FnScope ["box", "text", "rows", "numbers", "number", "words", "some", "best", "parts", "due", "texts", "version", "k", "way"] ["box"] (defScope s__law_right) := ⟨rfl, rfl, rfl, by decide +kernel, rfl, by decide +kernel, by decide +kernel⟩
def m__law_right : List D → M D
  | [a_box] => (((pure a_box >>= fun x3 => pure [] >>= fun x3s => pure (x3 :: x3s)) >>= m__law_range) >>= fun v2 => (((pure v2 >>= fun x6 => pure [] >>= fun x6s => pure (x6 :: x6s)) >>= m__law_rows) >>= fun v5 => (((pure v5 >>= fun d => pure (Op.isNon d)) >>= fun c => if c then pure true else ((((((((pure v2 >>= fun x9 => pure [] >>= fun x9s => pure (x9 :: x9s)) >>= m_is_range) >>= fun x8 => (((pure v2 >>= fun x11 => pure [] >>= fun x11s => pure (x11 :: x11s)) >>= fun zs => if zs.length = (["value"] : List Str).length then m_is_range ([] ++ zs) else M.bad) >>= fun x10 => pure [] >>= fun x10s => pure (x10 :: x10s)) >>= fun x8s => pure (x8 :: x8s)) >>= Op.mkL) >>= fun x7 => (((pure (D.bl true) >>= fun x13 => (pure (D.bl true) >>= fun x14 => pure [] >>= fun x14s => pure (x14 :: x14s)) >>= fun x13s => pure (x13 :: x13s)) >>= Op.mkL) >>= fun x12 => pure [] >>= fun x12s => pure (x12 :: x12s)) >>= fun x7s => pure (x7 :: x7s)) >>= (m__law_same 12)) >>= truthB) >>= fun b => pure (!b))) >>= fun b => if b then pure (D.bl false) else ((((pure a_box >>= fun x25 => (pure v5 >>= fun x26 => pure [] >>= fun x26s => pure (x26 :: x26s)) >>= fun x25s => pure (x25 :: x25s)) >>= m__law_edges) >>= fun x32 => (((pure (D.int 4) >>= fun x27 => pure [] >>= fun x27s => pure (x27 :: x27s)) >>= rng1) >>= comp fun x31 => (fun d => pure d) x31 >>= fun b28 => pure true >>= fun b => if b then ((((pure a_box >>= fun x30 => pure [] >>= fun x30s => pure (x30 :: x30s)) >>= m__law_base) >>= fun x29 => pure [] >>= fun x29s => pure (x29 :: x29s)) >>= m__law_whole) >>= fun y => pure (some y) else pure none) >>= fun y33 => Op.add x32 y33) >>= fun v24 => (((pure v24 >>= itemsOf) >>= fun xs => forF (fun x66 (t34 : Unit) => (fun d => pure d) x66 >>= fun b35 => ((((((pure b35 >>= fun x43 => pure [] >>= fun x43s => pure (x43 :: x43s)) >>= m__law_three) >>= fun x45 => (((pure [] >>= Op.mkT) >>= fun x44 => pure [] >>= fun x44s => pure (x44 :: x44s)) >>= Op.mkT) >>= fun y46 => Op.add x45 y46) >>= fun x42 => pure [] >>= fun x42s => pure (x42 :: x42s)) >>= m__law_text) >>= fun v41 => (((pure (D.str ("told" : Str)) >>= fun x52 => (((pure v5 >>= fun x54 => (pure b35 >>= fun x55 => pure [] >>= fun x55s => pure (x55 :: x55s)) >>= fun x54s => pure (x54 :: x54s)) >>= m__law_in) >>= fun x53 => pure [] >>= fun x53s => pure (x53 :: x53s)) >>= fun x52s => pure (x52 :: x52s)) >>= Op.mkL) >>= fun v51 => ((((((((pure (D.int 2) >>= fun x57 => pure [] >>= fun x57s => pure (x57 :: x57s)) >>= rng1) >>= comp fun x62 => (fun d => pure d) x62 >>= fun b58 => pure true >>= fun b => if b then ((pure b58 >>= fun x59 => (pure v41 >>= fun x60 => (pure v2 >>= fun x61 => pure [] >>= fun x61s => pure (x61 :: x61s)) >>= fun x60s => pure (x60 :: x60s)) >>= fun x59s => pure (x59 :: x59s)) >>= m__law_said) >>= fun y => pure (some y) else pure none) >>= fun x56 => (((pure v51 >>= fun x64 => (pure v51 >>= fun x65 => pure [] >>= fun x65s => pure (x65 :: x65s)) >>= fun x64s => pure (x64 :: x64s)) >>= Op.mkL) >>= fun x63 => pure [] >>= fun x63s => pure (x63 :: x63s)) >>= fun x56s => pure (x56 :: x56s)) >>= (m__law_same 12)) >>= truthB) >>= fun b => pure (!b)) >>= fun b => if b then (pure (D.bl false) >>= fun d => pure (Fl.rt d)) else pure (Fl.nx ()))))) xs ()) >>= flK (fun (t34 : Unit) => (((((((pure v24 >>= fun x85 => ((pure a_box >>= fun x82 => (((pure v24 >>= fun x84 => pure [] >>= fun x84s => pure (x84 :: x84s)) >>= Bi.len) >>= fun x83 => pure [] >>= fun x83s => pure (x83 :: x83s)) >>= fun x82s => pure (x82 :: x82s)) >>= m__law_take) >>= fun y86 => Op.idx x85 y86) >>= fun x81 => pure [] >>= fun x81s => pure (x81 :: x81s)) >>= m__law_three) >>= fun x90 => ((((pure (D.str ("a" : Str)) >>= fun x88 => (pure (D.int 1) >>= fun x89 => pure [] >>= fun x89s => pure (x89 :: x89s)) >>= fun x88s => pure (x88 :: x88s)) >>= Op.mkT) >>= fun x87 => pure [] >>= fun x87s => pure (x87 :: x87s)) >>= Op.mkT) >>= fun y91 => Op.add x90 y91) >>= fun x80 => pure [] >>= fun x80s => pure (x80 :: x80s)) >>= m__law_text) >>= fun v79 => ((((((((pure (D.int 2) >>= fun x93 => pure [] >>= fun x93s => pure (x93 :: x93s)) >>= rng1) >>= comp fun x98 => (fun d => pure d) x98 >>= fun b94 => pure true >>= fun b => if b then ((pure b94 >>= fun x95 => (pure v79 >>= fun x96 => (pure v2 >>= fun x97 => pure [] >>= fun x97s => pure (x97 :: x97s)) >>= fun x96s => pure (x96 :: x96s)) >>= fun x95s => pure (x95 :: x95s)) >>= m__law_said) >>= fun y => pure (some y) else pure none) >>= fun x92 => ((((((pure (D.str ("told" : Str)) >>= fun x101 => (pure (D.bl false) >>= fun x102 => pure [] >>= fun x102s => pure (x102 :: x102s)) >>= fun x101s => pure (x101 :: x101s)) >>= Op.mkL) >>= fun x100 => pure [] >>= fun x100s => pure (x100 :: x100s)) >>= Op.mkL) >>= fun x103 => pure (D.int 2) >>= fun y104 => Op.mul x103 y104) >>= fun x99 => pure [] >>= fun x99s => pure (x99 :: x99s)) >>= fun x92s => pure (x92 :: x92s)) >>= (m__law_same 12)) >>= truthB) >>= fun b => pure (!b)) >>= fun b => if b then pure (D.bl false) else ((((((pure a_box >>= fun x129 => (pure (D.int 21) >>= fun x130 => pure [] >>= fun x130s => pure (x130 :: x130s)) >>= fun x129s => pure (x129 :: x129s)) >>= m__law_take) >>= fun x128 => pure [] >>= fun x128s => pure (x128 :: x128s)) >>= rng1) >>= comp fun x149 => (fun d => pure d) x149 >>= fun b131 => pure true >>= fun b => if b then ((((pure v24 >>= fun x136 => ((pure a_box >>= fun x133 => (((pure v24 >>= fun x135 => pure [] >>= fun x135s => pure (x135 :: x135s)) >>= Bi.len) >>= fun x134 => pure [] >>= fun x134s => pure (x134 :: x134s)) >>= fun x133s => pure (x133 :: x133s)) >>= m__law_take) >>= fun y137 => Op.idx x136 y137) >>= fun x132 => pure [] >>= fun x132s => pure (x132 :: x132s)) >>= m__law_three) >>= fun x147 => ((((((pure [] >>= Op.mkT) >>= fun x139 => ((pure [] >>= Op.mkT) >>= fun x140 => (((pure (D.str ("a" : Str)) >>= fun x142 => pure [] >>= fun x142s => pure (x142 :: x142s)) >>= Op.mkT) >>= fun x141 => pure [] >>= fun x141s => pure (x141 :: x141s)) >>= fun x140s => pure (x140 :: x140s)) >>= fun x139s => pure (x139 :: x139s)) >>= Op.mkL) >>= fun x145 => ((pure a_box >>= fun x143 => (pure (D.int 3) >>= fun x144 => pure [] >>= fun x144s => pure (x144 :: x144s)) >>= fun x143s => pure (x143 :: x143s)) >>= m__law_take) >>= fun y146 => Op.idx x145 y146) >>= fun x138 => pure [] >>= fun x138s => pure (x138 :: x138s)) >>= Op.mkT) >>= fun y148 => Op.add x147 y148) >>= fun y => pure (some y) else pure none) >>= fun v127 => (pure D.non >>= fun v150 => (((pure v127 >>= itemsOf) >>= fun xs => forN (fun x165 (t151 : D) => (fun d => pure d) x165 >>= fun b152 => ((((pure b152 >>= fun x153 => pure (D.int 3) >>= fun y154 => Op.idx x153 y154) >>= fun x155 => (pure [] >>= Op.mkT) >>= fun y156 => Op.eq x155 y156 >>= truthB) >>= fun c => if c then ((((pure v5 >>= fun x157 => (((pure b152 >>= fun x159 => pure [] >>= fun x159s => pure (x159 :: x159s)) >>= m__law_whole) >>= fun x158 => pure [] >>= fun x158s => pure (x158 :: x158s)) >>= fun x157s => pure (x157 :: x157s)) >>= m__law_in) >>= truthB) >>= fun c => if c then ((pure t151 >>= fun d => pure (Op.isNon d)) >>= fun c => if c then pure true else (((pure t151 >>= fun x160 => (pure b152 >>= fun x161 => pure [] >>= fun x161s => pure (x161 :: x161s)) >>= fun x160s => pure (x160 :: x160s)) >>= m__law_comes) >>= fun x162 => pure (D.int 0) >>= fun y163 => Op.ltG x162 y163 >>= truthB)) else pure false) else pure false) >>= fun b => if b then (pure b152 >>= fun v164 => pure v164) else pure t151)) xs v150) >>= fun (t151 : D) => (((pure (D.str ("told" : Str)) >>= fun x170 => (((pure t151 >>= fun d => pure (Op.isNon d)) >>= fun t => if t then pure D.non else ((pure t151 >>= fun x172 => pure [] >>= fun x172s => pure (x172 :: x172s)) >>= m__law_text)) >>= fun x171 => pure [] >>= fun x171s => pure (x171 :: x171s)) >>= fun x170s => pure (x170 :: x170s)) >>= Op.mkL) >>= fun v169 => (((((pure v127 >>= itemsOf) >>= comp fun x181 => (fun d => pure d) x181 >>= fun b179 => pure true >>= fun b => if b then ((pure b179 >>= fun x180 => pure [] >>= fun x180s => pure (x180 :: x180s)) >>= m__law_text) >>= fun y => pure (some y) else pure none) >>= fun x178 => pure [] >>= fun x178s => pure (x178 :: x178s)) >>= Bi.tuple) >>= fun v177 => (((((((((pure (D.int 2) >>= fun x183 => (pure (D.int 3) >>= fun x184 => pure [] >>= fun x184s => pure (x184 :: x184s)) >>= fun x183s => pure (x183 :: x183s)) >>= Op.mkL) >>= itemsOf) >>= comp fun x189 => (fun d => pure d) x189 >>= fun b185 => pure true >>= fun b => if b then ((pure b185 >>= fun x186 => (pure v177 >>= fun x187 => (pure v2 >>= fun x188 => pure [] >>= fun x188s => pure (x188 :: x188s)) >>= fun x187s => pure (x187 :: x187s)) >>= fun x186s => pure (x186 :: x186s)) >>= m__law_said) >>= fun y => pure (some y) else pure none) >>= fun x182 => (((pure v169 >>= fun x191 => (pure v169 >>= fun x192 => pure [] >>= fun x192s => pure (x192 :: x192s)) >>= fun x191s => pure (x191 :: x191s)) >>= Op.mkL) >>= fun x190 => pure [] >>= fun x190s => pure (x190 :: x190s)) >>= fun x182s => pure (x182 :: x182s)) >>= (m__law_same 12)) >>= truthB) >>= fun b => pure (!b)) >>= fun b => if b then pure (D.bl false) else ((pure a_box >>= fun x197 => (pure v2 >>= fun x198 => (pure v177 >>= fun x199 => (pure v79 >>= fun x200 => pure [] >>= fun x200s => pure (x200 :: x200s)) >>= fun x199s => pure (x199 :: x199s)) >>= fun x198s => pure (x198 :: x198s)) >>= fun x197s => pure (x197 :: x197s)) >>= m__law_refused)))))))))) (fun d => d))))))
  | _ => M.bad
theorem b__law_right {P : Program} {w : World} {K : PySem.W.Frag} {mg : Str → Option Value} {base : Heap} (G : Fx K mg) (D_is_range : DF P w K mg base 10 "is_range" s_is_range ["value"] m_is_range) (D__law_take : DF P w K mg base 3 "_law_take" s__law_take ["box", "many"] m__law_take) (D__law_same : DF P w K mg base 14 "_law_same" s__law_same ["told", "due"] (m__law_same 12)) (D__law_text : DF P w K mg base 3 "_law_text" s__law_text ["parts"] m__law_text) (D__law_comes : DF P w K mg base 3 "_law_comes" s__law_comes ["one", "other"] m__law_comes) (D__law_whole : DF P w K mg base 3 "_law_whole" s__law_whole ["numbers"] m__law_whole) (D__law_three : DF P w K mg base 3 "_law_three" s__law_three ["number"] m__law_three) (D__law_rows : DF P w K mg base 7 "_law_rows" s__law_rows ["text"] m__law_rows) (D__law_in : DF P w K mg base 3 "_law_in" s__law_in ["rows", "number"] m__law_in) (D__law_base : DF P w K mg base 5 "_law_base" s__law_base ["box"] m__law_base) (D__law_range : DF P w K mg base 6 "_law_range" s__law_range ["box"] m__law_range) (D__law_edges : DF P w K mg base 3 "_law_edges" s__law_edges ["box", "rows"] m__law_edges) (D__law_said : DF P w K mg base 15 "_law_said" s__law_said ["way", "one", "text"] m__law_said) (D__law_refused : DF P w K mg base 16 "_law_refused" s__law_refused ["box", "text", "texts", "version"] m__law_refused) {f : Addr} {cdv : Value} {A : Around} {outer : List Env} {s : Shared} {H : Hp} {E : XK} (hr : Room 16 (A.deeper (envOfC "_law_right" (defScope s__law_right) s.heap.objs.size f cdv))) (a_box : D) :
  JC (cxOf (L2.CX P w) P w K mg base ["box", "text", "rows", "numbers", "number", "words", "some", "best", "parts", "due", "texts", "version", "k", "way"] "_law_right" (defScope s__law_right) f cdv A outer s H E) (fun c d _ H2 => E c d H2) (List.replicate 14 none) [some (.val a_box), none, none, none, none, none, none, none, none, none, none, none, none, none] (defBody s__law_right) U0 (m__law_right [a_box]) .fin := by
  have tk : Takes (cxOf (L2.CX P w) P w K mg base ["box", "text", "rows", "numbers", "number", "words", "some", "best", "parts", "due", "texts", "version", "k", "way"] "_law_right" (defScope s__law_right) f cdv A outer s H E) (fun c d _ H2 => E c d H2) := takes_of rfl rfl rfl rfl
  exact (jc_set 1 (by first | exact weak_none rfl | exact Weak.rfl) sc__law_right.nd (je_call D__law_range (hr.mono (by omega)) tk rfl (ja_cons (je_name 0) ja_nil)) (fun v2 => (jc_set 2 (by first | exact weak_none rfl | exact Weak.rfl) sc__law_right.nd (je_call D__law_rows (hr.mono (by omega)) tk rfl (ja_cons (je_name 1) ja_nil)) (fun v5 => (jc_if (by first | exact weak_none rfl | exact Weak.rfl) (jt_w (jw_or (jt_isNone (JE.b (je_name 2))) (jw_or1 (jt_not (jt_bool (je_call D__law_same (hr.mono (by omega)) tk rfl (ja_cons (je_lst (ja_cons (je_call D_is_range (hr.mono (by omega)) tk rfl (ja_cons (je_name 1) ja_nil)) (ja_cons (je_callK0 (f := m_is_range) (gg := (fun {_} xs ys => xs ++ ys)) (ks := (["value"] : List Str)) D_is_range (hr.mono (by omega)) tk rfl rfl kw_app (fun _ _ _ _ _ _ ws h => match ws, h with | [_], _ => rfl) (jk_cons (je_name 1) jk_nil) rfl) ja_nil))) (ja_cons (je_lst (ja_cons je_bl (ja_cons je_bl ja_nil))) ja_nil)))))))) (jc_retF (by first | exact weak_none rfl | exact Weak.rfl) je_bl) (jc_end (jc_set 3 (by first | exact weak_none rfl | exact Weak.rfl) sc__law_right.nd (je_op od_add nx_add (JE.b (je_call D__law_edges (hr.mono (by omega)) tk rfl (ja_cons (je_name 0) (ja_cons (je_name 2) ja_nil)))) (JE.b (JF.je (jf_lc (own := [("k", 12)]) rfl sc__law_right.nd (JI.b (ji_range1 rfl G.f_range (jab_cons (JE.b je_int) jab_nil))) (blk_of (by kernel_rfl)) (fun _ _ _ _ _ => (pg_name (i := 12) sc__law_right.nd rfl (by first | exact Or.inl rfl | exact Or.inr rfl))) (go_name _ 12) (by simp) (fun _ _ _ _ _ b28 => tY) (fun _ _ _ _ _ b28 => (je_call D__law_whole (hr.mono (by omega)) takes_none5 rfl (ja_cons (je_call D__law_base (hr.mono (by omega)) takes_none5 rfl (ja_cons (je_name 0) ja_nil)) ja_nil))))))) (fun v24 => (jc_fl2 (r := (fun d => d)) (j1_forF (eN := (fun (t34 : Unit) => ([some (.val a_box), some (.val v2), some (.val v5), some (.val v24), none, none, none, none, none, none, none, none, none, none] : EnvD))) (t0 := ()) (passes_of rfl) rfl (by first | exact weak_none rfl | exact Weak.rfl) (ji_any (je_name 3)) (pg_name (i := 4) sc__law_right.nd rfl (by first | exact Or.inl rfl | exact Or.inr rfl)) (go_name _ 4) (by repeat (first | exact Weak.nil | refine Weak.same ?_ | refine Weak.none ?_)) (fun t34 b35 => (jc_set 11 (by first | exact weak_none rfl | exact Weak.rfl) sc__law_right.nd (je_call D__law_text (hr.mono (by omega)) tk rfl (ja_cons (je_op od_add nx_add (JE.b (je_call D__law_three (hr.mono (by omega)) tk rfl (ja_cons (je_name 4) ja_nil))) (JE.b (je_tup (ja_cons (je_tup ja_nil) ja_nil)))) ja_nil)) (fun v41 => (jc_set 9 (by first | exact weak_none rfl | exact Weak.rfl) sc__law_right.nd (je_lst (ja_cons je_str (ja_cons (je_call D__law_in (hr.mono (by omega)) tk rfl (ja_cons (je_name 2) (ja_cons (je_name 4) ja_nil))) ja_nil))) (fun v51 => (jc_if (by first | exact weak_none rfl | exact Weak.rfl) (jt_not (jt_bool (je_call D__law_same (hr.mono (by omega)) tk rfl (ja_cons (JF.je (jf_lc (own := [("way", 13)]) rfl sc__law_right.nd (JI.b (ji_range1 rfl G.f_range (jab_cons (JE.b je_int) jab_nil))) (blk_of (by kernel_rfl)) (fun _ _ _ _ _ => (pg_name (i := 13) sc__law_right.nd rfl (by first | exact Or.inl rfl | exact Or.inr rfl))) (go_name _ 13) (by simp) (fun _ _ _ _ _ b58 => tY) (fun _ _ _ _ _ b58 => (je_call D__law_said (hr.mono (by omega)) takes_none5 rfl (ja_cons (je_name 13) (ja_cons (je_name 11) (ja_cons (je_name 1) ja_nil))))))) (ja_cons (je_lst (ja_cons (je_name 9) (ja_cons (je_name 9) ja_nil))) ja_nil))))) (jc_ret (r := Fl.rt) (by first | exact weak_none rfl | exact Weak.rfl) je_bl (fun _ => .inl rfl)) (jc_end (jc_nil (by repeat (first | exact Weak.nil | refine Weak.same ?_ | refine Weak.none ?_)) (.inr rfl)))))))))) (fun t34 => (jc_set 5 (by first | exact weak_none rfl | exact Weak.rfl) sc__law_right.nd (je_call D__law_text (hr.mono (by omega)) tk rfl (ja_cons (je_op od_add nx_add (JE.b (je_call D__law_three (hr.mono (by omega)) tk rfl (ja_cons (je_ix (JE.b (je_name 3)) (JE.b (je_call D__law_take (hr.mono (by omega)) tk rfl (ja_cons (je_name 0) (ja_cons (je_callB cd_len nx_len rfl G.f_len (by decide +kernel) (jab_cons (JE.b (je_name 3)) jab_nil)) ja_nil)))) (fun _ _ => rfl)) ja_nil))) (JE.b (je_tup (ja_cons (je_tup (ja_cons je_str (ja_cons je_int ja_nil))) ja_nil)))) ja_nil)) (fun v79 => (jc_if (by first | exact weak_none rfl | exact Weak.rfl) (jt_not (jt_bool (je_call D__law_same (hr.mono (by omega)) tk rfl (ja_cons (JF.je (jf_lc (own := [("way", 13)]) rfl sc__law_right.nd (JI.b (ji_range1 rfl G.f_range (jab_cons (JE.b je_int) jab_nil))) (blk_of (by kernel_rfl)) (fun _ _ _ _ _ => (pg_name (i := 13) sc__law_right.nd rfl (by first | exact Or.inl rfl | exact Or.inr rfl))) (go_name _ 13) (by simp) (fun _ _ _ _ _ b94 => tY) (fun _ _ _ _ _ b94 => (je_call D__law_said (hr.mono (by omega)) takes_none5 rfl (ja_cons (je_name 13) (ja_cons (je_name 5) (ja_cons (je_name 1) ja_nil))))))) (ja_cons (je_op od_mul nx_mul (JE.b (je_lst (ja_cons (je_lst (ja_cons je_str (ja_cons je_bl ja_nil))) ja_nil))) (JE.b je_int)) ja_nil))))) (jc_retF (by first | exact weak_none rfl | exact Weak.rfl) je_bl) (jc_end (jc_setLc (hl := by simp) (own := [("k", 12)]) 6 (by first | exact weak_none rfl | exact Weak.rfl) rfl sc__law_right.nd rfl (JI.b (ji_range1 rfl G.f_range (jab_cons (JE.b (je_call D__law_take (hr.mono (by omega)) tk rfl (ja_cons (je_name 0) (ja_cons je_int ja_nil)))) jab_nil))) (blk_of (by kernel_rfl)) (fun _ _ _ _ _ => (pg_name (i := 12) sc__law_right.nd rfl (by first | exact Or.inl rfl | exact Or.inr rfl))) (go_name _ 12) (by simp) (fun _ _ _ _ _ b131 => tY) (fun _ _ _ _ _ b131 => (je_op od_add nx_add (JE.b (je_call D__law_three (hr.mono (by omega)) takes_none5 rfl (ja_cons (je_ix (JE.b (je_name 3)) (JE.b (je_call D__law_take (hr.mono (by omega)) takes_none5 rfl (ja_cons (je_name 0) (ja_cons (je_callB cd_len nx_len rfl G.f_len (by decide +kernel) (jab_cons (JE.b (je_name 3)) jab_nil)) ja_nil)))) (fun _ _ => rfl)) ja_nil))) (JE.b (je_tup (ja_cons (je_ix (JE.b (je_lst (ja_cons (je_tup ja_nil) (ja_cons (je_tup ja_nil) (ja_cons (je_tup (ja_cons je_str ja_nil)) ja_nil))))) (JE.b (je_call D__law_take (hr.mono (by omega)) takes_none5 rfl (ja_cons (je_name 0) (ja_cons je_int ja_nil)))) (fun _ _ => rfl)) ja_nil))))) (fun v127 => (jc_set 7 (by first | exact weak_none rfl | exact Weak.rfl) sc__law_right.nd je_non (fun v150 => (jc_nx (j1_forN (eN := (fun (t151 : D) => ([some (.val a_box), some (.val v2), some (.val v5), some (.val v24), none, some (.val v79), some (.val v127), some (.val t151), none, none, none, none, none, none] : EnvD))) (t0 := v150) (passes_of rfl) rfl (by first | exact weak_none rfl | exact Weak.rfl) (ji_any (je_name 6)) (pg_name (i := 8) sc__law_right.nd rfl (by first | exact Or.inl rfl | exact Or.inr rfl)) (go_name _ 8) (by repeat (first | exact Weak.nil | refine Weak.same ?_ | refine Weak.none ?_)) (fun t151 b152 => (jc_if (by first | exact weak_none rfl | exact Weak.rfl) (jt_w (jw_and (jt_cmp (od_eq hr.units) nx_eq (JE.b (je_ix (JE.b (je_name 8)) (JE.b je_int) (fun _ _ => rfl))) (JE.b (je_tup ja_nil)) rfl) (jw_and (jt_bool (je_call D__law_in (hr.mono (by omega)) tk rfl (ja_cons (je_name 2) (ja_cons (je_call D__law_whole (hr.mono (by omega)) tk rfl (ja_cons (je_name 8) ja_nil)) ja_nil)))) (jw_and1 (jt_w (jw_or (jt_isNone (JE.b (je_name 7))) (jw_or1 (jt_cmp (od_ltG hr.units) nx_ltG (JE.b (je_call D__law_comes (hr.mono (by omega)) tk rfl (ja_cons (je_name 7) (ja_cons (je_name 8) ja_nil)))) (JE.b je_int) rfl)))))))) (jc_set 7 (by first | exact weak_none rfl | exact Weak.rfl) sc__law_right.nd (je_name 8) (fun v164 => (jc_end (jc_nil (by repeat (first | exact Weak.nil | refine Weak.same ?_ | refine Weak.none ?_)) (.inr rfl))))) (jc_end (jc_nil (by repeat (first | exact Weak.nil | refine Weak.same ?_ | refine Weak.none ?_)) (.inr rfl)))))) (fun t151 => (jc_set 9 (by first | exact weak_none rfl | exact Weak.rfl) sc__law_right.nd (je_lst (ja_cons je_str (ja_cons (je_if (jt_isNone (JE.b (je_name 7))) je_non (je_call D__law_text (hr.mono (by omega)) tk rfl (ja_cons (je_name 7) ja_nil))) ja_nil))) (fun v169 => (jc_set 10 (by first | exact weak_none rfl | exact Weak.rfl) sc__law_right.nd (je_callTy cd_tuple nx_tuple rfl G.f_tuple (by decide +kernel) (jab_cons (JE.b (JF.je (jf_lc (own := [("parts", 8)]) rfl sc__law_right.nd (jib_any (JE.b (je_name 6))) (blk_of (by kernel_rfl)) (fun _ _ _ _ _ => (pg_name (i := 8) sc__law_right.nd rfl (by first | exact Or.inl rfl | exact Or.inr rfl))) (go_name _ 8) (by simp) (fun _ _ _ _ _ b179 => tY) (fun _ _ _ _ _ b179 => (je_call D__law_text (hr.mono (by omega)) takes_none5 rfl (ja_cons (je_name 8) ja_nil)))))) jab_nil)) (fun v177 => (jc_if (by first | exact weak_none rfl | exact Weak.rfl) (jt_not (jt_bool (je_call D__law_same (hr.mono (by omega)) tk rfl (ja_cons (JF.je (jf_lc (own := [("way", 13)]) rfl sc__law_right.nd (jib_any (JE.b (je_lst (ja_cons je_int (ja_cons je_int ja_nil))))) (blk_of (by kernel_rfl)) (fun _ _ _ _ _ => (pg_name (i := 13) sc__law_right.nd rfl (by first | exact Or.inl rfl | exact Or.inr rfl))) (go_name _ 13) (by simp) (fun _ _ _ _ _ b185 => tY) (fun _ _ _ _ _ b185 => (je_call D__law_said (hr.mono (by omega)) takes_none5 rfl (ja_cons (je_name 13) (ja_cons (je_name 10) (ja_cons (je_name 1) ja_nil))))))) (ja_cons (je_lst (ja_cons (je_name 9) (ja_cons (je_name 9) ja_nil))) ja_nil))))) (jc_retF (by first | exact weak_none rfl | exact Weak.rfl) je_bl) (jc_end (jc_retF (by first | exact weak_none rfl | exact Weak.rfl) (je_call D__law_refused (hr.mono (by omega)) tk rfl (ja_cons (je_name 0) (ja_cons (je_name 1) (ja_cons (je_name 10) (ja_cons (je_name 5) ja_nil))))))))))))))))))))))) (fun _ => .inr rfl))))))))))
theorem d__law_right {P : Program} {w : World} {K : PySem.W.Frag} {mg : Str → Option Value} {base : Heap} (G : Fx K mg) (D_is_range : DF P w K mg base 10 "is_range" s_is_range ["value"] m_is_range) (D__law_take : DF P w K mg base 3 "_law_take" s__law_take ["box", "many"] m__law_take) (D__law_same : DF P w K mg base 14 "_law_same" s__law_same ["told", "due"] (m__law_same 12)) (D__law_text : DF P w K mg base 3 "_law_text" s__law_text ["parts"] m__law_text) (D__law_comes : DF P w K mg base 3 "_law_comes" s__law_comes ["one", "other"] m__law_comes) (D__law_whole : DF P w K mg base 3 "_law_whole" s__law_whole ["numbers"] m__law_whole) (D__law_three : DF P w K mg base 3 "_law_three" s__law_three ["number"] m__law_three) (D__law_rows : DF P w K mg base 7 "_law_rows" s__law_rows ["text"] m__law_rows) (D__law_in : DF P w K mg base 3 "_law_in" s__law_in ["rows", "number"] m__law_in) (D__law_base : DF P w K mg base 5 "_law_base" s__law_base ["box"] m__law_base) (D__law_range : DF P w K mg base 6 "_law_range" s__law_range ["box"] m__law_range) (D__law_edges : DF P w K mg base 3 "_law_edges" s__law_edges ["box", "rows"] m__law_edges) (D__law_said : DF P w K mg base 15 "_law_said" s__law_said ["way", "one", "text"] m__law_said) (D__law_refused : DF P w K mg base 16 "_law_refused" s__law_refused ["box", "text", "texts", "version"] m__law_refused) {f : Addr} {fd : FuncData} (F : FunD K "_law_right" "_law_right" (defArgs s__law_right) (defBody s__law_right) (defScope s__law_right) [] [] f fd) (hx : mg "_law_right" = some (.ref f)) : DF P w K mg base 17 "_law_right" s__law_right ["box"] m__law_right :=
  DF.of F hx sc__law_right (fun _ _ _ _ _ _ us h => match us, h with | [_], _ => rfl) (fun ds s h => match ds, h with | [], _ => rfl | [_], h => absurd rfl h | _ :: _ :: _, _ => rfl) fun cdv A outer s H E ds hl hr => match ds, hl with | [a_box], _ => b__law_right G D_is_range D__law_take D__law_same D__law_text D__law_comes D__law_whole D__law_three D__law_rows D__law_in D__law_base D__law_range D__law_edges D__law_said D__law_refused hr a_box
/-! law -/
abbrev s_law : Stmt := top 68
theorem sc_law : FnScope ["script", "k"] ["script"] (defScope s_law) := ⟨rfl, rfl, rfl, by decide +kernel, rfl, by decide +kernel, by decide +kernel⟩
def m_law : List D → M D
  | [a_script] => ((((((pure (D.int 3) >>= fun x3 => (((pure (D.int 6) >>= fun x5 => (((pure a_script >>= fun x7 => pure [] >>= fun x7s => pure (x7 :: x7s)) >>= Bi.len) >>= fun x6 => pure [] >>= fun x6s => pure (x6 :: x6s)) >>= fun x5s => pure (x5 :: x5s)) >>= Bi.min) >>= fun x4 => pure [] >>= fun x4s => pure (x4 :: x4s)) >>= fun x3s => pure (x3 :: x3s)) >>= Bi.max) >>= fun x2 => pure [] >>= fun x2s => pure (x2 :: x2s)) >>= rng1) >>= fun xs => forF (fun x13 (t1 : Unit) => (fun d => pure d) x13 >>= fun b8 => (((((((((pure a_script >>= fun x11 => (pure b8 >>= fun x12 => pure [] >>= fun x12s => pure (x12 :: x12s)) >>= fun x11s => pure (x11 :: x11s)) >>= m__law_cell) >>= fun x10 => pure [] >>= fun x10s => pure (x10 :: x10s)) >>= m__law_box) >>= fun x9 => pure [] >>= fun x9s => pure (x9 :: x9s)) >>= m__law_right) >>= truthB) >>= fun b => pure (!b)) >>= fun b => if b then (pure (D.bl false) >>= fun d => pure (Fl.rt d)) else pure (Fl.nx ()))) xs ()) >>= flK (fun (t1 : Unit) => pure (D.bl true)) (fun d => d))
  | _ => M.bad
theorem b_law {P : Program} {w : World} {K : PySem.W.Frag} {mg : Str → Option Value} {base : Heap} (G : Fx K mg) (D__law_cell : DF P w K mg base 3 "_law_cell" s__law_cell ["script", "k"] m__law_cell) (D__law_box : DF P w K mg base 3 "_law_box" s__law_box ["great"] m__law_box) (D__law_right : DF P w K mg base 17 "_law_right" s__law_right ["box"] m__law_right) {f : Addr} {cdv : Value} {A : Around} {outer : List Env} {s : Shared} {H : Hp} {E : XK} (hr : Room 17 (A.deeper (envOfC "law" (defScope s_law) s.heap.objs.size f cdv))) (a_script : D) :
  JC (cxOf (L2.CX P w) P w K mg base ["script", "k"] "law" (defScope s_law) f cdv A outer s H E) (fun c d _ H2 => E c d H2) (List.replicate 2 none) [some (.val a_script), none] (defBody s_law) U0 (m_law [a_script]) .fin := by
  have tk : Takes (cxOf (L2.CX P w) P w K mg base ["script", "k"] "law" (defScope s_law) f cdv A outer s H E) (fun c d _ H2 => E c d H2) := takes_of rfl rfl rfl rfl
  exact (jc_fl2 (r := (fun d => d)) (j1_forF (eN := (fun (t1 : Unit) => ([some (.val a_script), none] : EnvD))) (t0 := ()) (passes_of rfl) rfl (by first | exact weak_none rfl | exact Weak.rfl) (ji_range1 rfl G.f_range (jab_cons (JE.b (je_callB (cd_max rfl) nx_max rfl G.f_max (by decide +kernel) (jab_cons (JE.b je_int) (jab_cons (JE.b (je_callB (cd_min rfl) nx_min rfl G.f_min (by decide +kernel) (jab_cons (JE.b je_int) (jab_cons (JE.b (je_callB cd_len nx_len rfl G.f_len (by decide +kernel) (jab_cons (JE.b (je_name 0)) jab_nil))) jab_nil)))) jab_nil)))) jab_nil)) (pg_name (i := 1) sc_law.nd rfl (by first | exact Or.inl rfl | exact Or.inr rfl)) (go_name _ 1) (by repeat (first | exact Weak.nil | refine Weak.same ?_ | refine Weak.none ?_)) (fun t1 b8 => (jc_if (by first | exact weak_none rfl | exact Weak.rfl) (jt_not (jt_bool (je_call D__law_right (hr.mono (by omega)) tk rfl (ja_cons (je_call D__law_box (hr.mono (by omega)) tk rfl (ja_cons (je_call D__law_cell (hr.mono (by omega)) tk rfl (ja_cons (je_name 0) (ja_cons (je_name 1) ja_nil))) ja_nil)) ja_nil)))) (jc_ret (r := Fl.rt) (by first | exact weak_none rfl | exact Weak.rfl) je_bl (fun _ => .inl rfl)) (jc_end (jc_nil (by repeat (first | exact Weak.nil | refine Weak.same ?_ | refine Weak.none ?_)) (.inr rfl)))))) (fun t1 => (jc_retF (by first | exact weak_none rfl | exact Weak.rfl) je_bl)) (fun _ => .inr rfl))
theorem d_law {P : Program} {w : World} {K : PySem.W.Frag} {mg : Str → Option Value} {base : Heap} (G : Fx K mg) (D__law_cell : DF P w K mg base 3 "_law_cell" s__law_cell ["script", "k"] m__law_cell) (D__law_box : DF P w K mg base 3 "_law_box" s__law_box ["great"] m__law_box) (D__law_right : DF P w K mg base 17 "_law_right" s__law_right ["box"] m__law_right) {f : Addr} {fd : FuncData} (F : FunD K "law" "law" (defArgs s_law) (defBody s_law) (defScope s_law) [] [] f fd) (hx : mg "law" = some (.ref f)) : DF P w K mg base 18 "law" s_law ["script"] m_law :=
  DF.of F hx sc_law (fun _ _ _ _ _ _ us h => match us, h with | [_], _ => rfl) (fun ds s h => match ds, h with | [], _ => rfl | [_], h => absurd rfl h | _ :: _ :: _, _ => rfl) fun cdv A outer s H E ds hl hr => match ds, hl with | [a_script], _ => b_law G D__law_cell D__law_box D__law_right hr a_script
end Mi

set_option maxRecDepth 100000
set_option maxHeartbeats 0
/-! the head: what the top has written, told by names; printed by head.py -/
namespace Hd
open PySem PySem.Spec PyProof.Rows L2 DL Mi
abbrev h0 : Stmt := inClass (Mi.top 3) 0
abbrev h1 : Stmt := inClass (Mi.top 4) 0
abbrev h2 : Stmt := inClass (Mi.top 5) 0
abbrev h3 : Stmt := Mi.top 15
abbrev h4 : Stmt := Mi.top 16
abbrev h5 : Stmt := Mi.top 17
abbrev h6 : Stmt := Mi.top 18
abbrev h7 : Stmt := Mi.top 19
abbrev h8 : Stmt := Mi.top 20
abbrev h9 : Stmt := Mi.top 21
abbrev h10 : Stmt := Mi.top 22
abbrev h11 : Stmt := Mi.top 30
abbrev h12 : Stmt := Mi.top 31
abbrev h13 : Stmt := Mi.top 32
abbrev h14 : Stmt := Mi.top 33
abbrev h15 : Stmt := Mi.top 34
abbrev h16 : Stmt := Mi.top 35
abbrev h17 : Stmt := Mi.top 36
abbrev h18 : Stmt := Mi.top 37
abbrev h19 : Stmt := Mi.top 38
abbrev h20 : Stmt := Mi.top 39
abbrev h21 : Stmt := Mi.top 40
abbrev h22 : Stmt := Mi.top 41
abbrev h23 : Stmt := Mi.top 42
abbrev h24 : Stmt := Mi.top 44
abbrev h25 : Stmt := Mi.top 45
abbrev h26 : Stmt := Mi.top 46
abbrev h27 : Stmt := Mi.top 47
abbrev h28 : Stmt := Mi.top 48
abbrev h29 : Stmt := Mi.top 49
abbrev h30 : Stmt := Mi.top 50
abbrev h31 : Stmt := Mi.top 51
abbrev h32 : Stmt := Mi.top 52
abbrev h33 : Stmt := Mi.top 53
abbrev h34 : Stmt := Mi.top 54
abbrev h35 : Stmt := Mi.top 55
abbrev h36 : Stmt := Mi.top 56
abbrev h37 : Stmt := Mi.top 57
abbrev h38 : Stmt := Mi.top 58
abbrev h39 : Stmt := Mi.top 59
abbrev h40 : Stmt := Mi.top 60
abbrev h41 : Stmt := Mi.top 61
abbrev h42 : Stmt := Mi.top 62
abbrev h43 : Stmt := Mi.top 63
abbrev h44 : Stmt := Mi.top 64
abbrev h45 : Stmt := Mi.top 65
abbrev h46 : Stmt := Mi.top 66
abbrev h47 : Stmt := Mi.top 67
abbrev h48 : Stmt := Mi.top 68
def fn : List He.DefD := [⟨("InvalidRange", some "__init__"), "__init__", "InvalidRange.__init__", defArgs h0, defBody h0, defScope h0, [], []⟩,
  ⟨("InvalidVersion", some "__init__"), "__init__", "InvalidVersion.__init__", defArgs h1, defBody h1, defScope h1, [], []⟩,
  ⟨("InvalidVersions", some "__init__"), "__init__", "InvalidVersions.__init__", defArgs h2, defBody h2, defScope h2, [], []⟩,
  ⟨("are_digits", none), "are_digits", "are_digits", defArgs h3, defBody h3, defScope h3, [], []⟩,
  ⟨("is_number", none), "is_number", "is_number", defArgs h4, defBody h4, defScope h4, [], []⟩,
  ⟨("is_word", none), "is_word", "is_word", defArgs h5, defBody h5, defScope h5, [], []⟩,
  ⟨("word_of", none), "word_of", "word_of", defArgs h6, defBody h6, defScope h6, [], []⟩,
  ⟨("parts_in", none), "parts_in", "parts_in", defArgs h7, defBody h7, defScope h7, [], []⟩,
  ⟨("parts_of", none), "parts_of", "parts_of", defArgs h8, defBody h8, defScope h8, [], []⟩,
  ⟨("key_of", none), "key_of", "key_of", defArgs h9, defBody h9, defScope h9, [], []⟩,
  ⟨("are_versions", none), "are_versions", "are_versions", defArgs h10, defBody h10, defScope h10, [], []⟩,
  ⟨("number_of", none), "number_of", "number_of", defArgs h11, defBody h11, defScope h11, [], []⟩,
  ⟨("high_of", none), "high_of", "high_of", defArgs h12, defBody h12, defScope h12, [], []⟩,
  ⟨("bounds_of", none), "bounds_of", "bounds_of", defArgs h13, defBody h13, defScope h13, [], []⟩,
  ⟨("bound_in", none), "bound_in", "bound_in", defArgs h14, defBody h14, defScope h14, [], []⟩,
  ⟨("alternative_in", none), "alternative_in", "alternative_in", defArgs h15, defBody h15, defScope h15, [], []⟩,
  ⟨("joined", none), "joined", "joined", defArgs h16, defBody h16, defScope h16, [], []⟩,
  ⟨("rows_in", none), "rows_in", "rows_in", defArgs h17, defBody h17, defScope h17, [], []⟩,
  ⟨("rows_of", none), "rows_of", "rows_of", defArgs h18, defBody h18, defScope h18, [], []⟩,
  ⟨("is_range", none), "is_range", "is_range", defArgs h19, defBody h19, defScope h19, [], []⟩,
  ⟨("has_number", none), "has_number", "has_number", defArgs h20, defBody h20, defScope h20, [], []⟩,
  ⟨("has_parts", none), "has_parts", "has_parts", defArgs h21, defBody h21, defScope h21, [], []⟩,
  ⟨("in_range", none), "in_range", "in_range", defArgs h22, defBody h22, defScope h22, [], []⟩,
  ⟨("best_in", none), "best_in", "best_in", defArgs h23, defBody h23, defScope h23, [], []⟩,
  ⟨("_law_cell", none), "_law_cell", "_law_cell", defArgs h24, defBody h24, defScope h24, [], []⟩,
  ⟨("_law_box", none), "_law_box", "_law_box", defArgs h25, defBody h25, defScope h25, [], []⟩,
  ⟨("_law_take", none), "_law_take", "_law_take", defArgs h26, defBody h26, defScope h26, [], []⟩,
  ⟨("_law_same", none), "_law_same", "_law_same", defArgs h27, defBody h27, defScope h27, [], []⟩,
  ⟨("_law_is_digits", none), "_law_is_digits", "_law_is_digits", defArgs h28, defBody h28, defScope h28, [], []⟩,
  ⟨("_law_is_number", none), "_law_is_number", "_law_is_number", defArgs h29, defBody h29, defScope h29, [], []⟩,
  ⟨("_law_parts", none), "_law_parts", "_law_parts", defArgs h30, defBody h30, defScope h30, [], []⟩,
  ⟨("_law_text", none), "_law_text", "_law_text", defArgs h31, defBody h31, defScope h31, [], []⟩,
  ⟨("_law_number", none), "_law_number", "_law_number", defArgs h32, defBody h32, defScope h32, [], []⟩,
  ⟨("_law_drawn_parts", none), "_law_drawn_parts", "_law_drawn_parts", defArgs h33, defBody h33, defScope h33, [], []⟩,
  ⟨("_law_comes", none), "_law_comes", "_law_comes", defArgs h34, defBody h34, defScope h34, [], []⟩,
  ⟨("_law_spoiled", none), "_law_spoiled", "_law_spoiled", defArgs h35, defBody h35, defScope h35, [], []⟩,
  ⟨("_law_whole", none), "_law_whole", "_law_whole", defArgs h36, defBody h36, defScope h36, [], []⟩,
  ⟨("_law_three", none), "_law_three", "_law_three", defArgs h37, defBody h37, defScope h37, [], []⟩,
  ⟨("_law_bound", none), "_law_bound", "_law_bound", defArgs h38, defBody h38, defScope h38, [], []⟩,
  ⟨("_law_rows", none), "_law_rows", "_law_rows", defArgs h39, defBody h39, defScope h39, [], []⟩,
  ⟨("_law_in", none), "_law_in", "_law_in", defArgs h40, defBody h40, defScope h40, [], []⟩,
  ⟨("_law_base", none), "_law_base", "_law_base", defArgs h41, defBody h41, defScope h41, [], []⟩,
  ⟨("_law_range", none), "_law_range", "_law_range", defArgs h42, defBody h42, defScope h42, [], []⟩,
  ⟨("_law_edges", none), "_law_edges", "_law_edges", defArgs h43, defBody h43, defScope h43, [], []⟩,
  ⟨("_law_said", none), "_law_said", "_law_said", defArgs h44, defBody h44, defScope h44, [], []⟩,
  ⟨("_law_bent", none), "_law_bent", "_law_bent", defArgs h45, defBody h45, defScope h45, [], []⟩,
  ⟨("_law_right", none), "_law_right", "_law_right", defArgs h46, defBody h46, defScope h46, [], []⟩,
  ⟨("_law_refused", none), "_law_refused", "_law_refused", defArgs h47, defBody h47, defScope h47, [], []⟩,
  ⟨("law", none), "law", "law", defArgs h48, defBody h48, defScope h48, [], []⟩]
def fa : List He.Fa := [.glo "are_digits", .glo "is_number", .glo "is_word", .glo "word_of", .glo "parts_in", .glo "parts_of", .glo "key_of", .glo "are_versions", .glo "number_of", .glo "high_of", .glo "bounds_of", .glo "bound_in", .glo "alternative_in", .glo "joined", .glo "rows_in", .glo "rows_of", .glo "is_range", .glo "has_number", .glo "has_parts", .glo "in_range", .glo "best_in", .glo "_law_cell", .glo "_law_box", .glo "_law_take", .glo "_law_same", .glo "_law_is_digits", .glo "_law_is_number", .glo "_law_parts", .glo "_law_text", .glo "_law_number", .glo "_law_drawn_parts", .glo "_law_comes", .glo "_law_spoiled", .glo "_law_whole", .glo "_law_three", .glo "_law_bound", .glo "_law_rows", .glo "_law_in", .glo "_law_base", .glo "_law_range", .glo "_law_edges", .glo "_law_said", .glo "_law_bent", .glo "_law_right", .glo "_law_refused", .glo "law", .glo "InvalidRange", .glo "InvalidVersion", .glo "InvalidVersions", .free "abs", .free "all", .free "any", .free "bool", .free "int", .free "isinstance", .free "len", .free "list", .free "max", .free "min", .free "range", .free "sorted", .free "str", .free "sum", .free "tuple", .free "zip"]
def ex (K : PySem.W.Frag) : Bool := exK K "InvalidRange" "given" && (exK K "InvalidVersion" "given" && (exK K "InvalidVersions" "given" && (isG K "ALL" c_ALL && (isG K "BASE" c_BASE && (isG K "DIGITS" c_DIGITS && (isG K "END" c_END && (isG K "LETTERS" c_LETTERS && (isG K "MOST_ALTERNATIVES" c_MOST_ALTERNATIVES && (isG K "MOST_BOUNDS" c_MOST_BOUNDS && (isG K "MOST_DIGITS" c_MOST_DIGITS && (isG K "MOST_SIGNS" c_MOST_SIGNS && (isG K "MOST_TEXTS" c_MOST_TEXTS && (isG K "MOST_WORDS" c_MOST_WORDS && ((isG K "PARTS" (D.tup [(D.str ("major" : Str)), (D.str ("minor" : Str)), (D.str ("patch" : Str))]) && gtK K "PARTS") && ((isG K "SIGNS" (D.tup [(D.str ("<=" : Str)), (D.str (">=" : Str)), (D.str ("=" : Str)), (D.str ("<" : Str)), (D.str (">" : Str)), (D.str ("^" : Str)), (D.str ("~" : Str))]) && gtK K "SIGNS") && ((exKnown.all fun c => exKnown.all fun y => decide (PySem.W.exmOne K (.ref (He.ga K c)) (.ref (He.ga K y)) = some (exSub c y)))))))))))))))))))
abbrev R : PySem.W.OpenRow := PySem.W.OpenLaw.row PySem.Challenge.rw_configbench_k34_ranges
def tl : List Str := (["best_in"] : List Str)
abbrev hk : PySem.W.Hook := DL.hookT 4 fa fn ex tl
def ob (s : PySem.W.SharedT) : DL.AlT := DL.obsT 4 fa fn ex tl (HandSHeadRun.getT s)
theorem ob_eq (s : PySem.W.SharedT) : ob s = hk.obs s.abs := DL.obsT_eq (HandSHeadRun.getT_eq s)
def loose0 : List Str := ["ALL", "BASE", "ConfigError", "DIGITS", "END", "InvalidRange", "InvalidVersion", "InvalidVersions", "LETTERS", "MOST_ALTERNATIVES", "MOST_BOUNDS", "MOST_DIGITS", "MOST_NUMBER", "MOST_SIGNS", "MOST_TEXTS", "MOST_WORDS", "PARTS", "SIGNS", "_law_base", "_law_bent", "_law_bound", "_law_box", "_law_cell", "_law_comes", "_law_drawn_parts", "_law_edges", "_law_in", "_law_is_digits", "_law_is_number", "_law_number"]
def loose1 : List Str := ["_law_parts", "_law_range", "_law_refused", "_law_right", "_law_rows", "_law_said", "_law_same", "_law_spoiled", "_law_take", "_law_text", "_law_three", "_law_whole", "alternative_in", "are_digits", "are_versions", "best_in", "bound_in", "bounds_of", "has_number", "has_parts", "high_of", "in_range", "is_number", "is_range", "is_word", "joined", "key_of", "number_of", "parts_in", "parts_of"]
def loose2 : List Str := ["rows_in", "rows_of", "word_of"]
def loose : List Str := loose0 ++ loose1 ++ loose2
theorem run (w : World) : HandSHeadRun.RunEq R (PySem.W.view R.prog [68]) hk ob 4000 loose w := by
  intro os
  kernel_rfl
theorem fx {K : PySem.W.Frag} {h : Heap} {mg : Str → Option Value} (X : K.In h) (G : h.Ns mainGlobals mg) (c : He.SaysD fa fn K) (e : ex K = true) : Fx K mg := by
  unfold ex at e
  simp only [Bool.and_eq_true] at e
  obtain ⟨x_InvalidRange, x_InvalidVersion, x_InvalidVersions, y_ALL, y_BASE, y_DIGITS, y_END, y_LETTERS, y_MOST_ALTERNATIVES, y_MOST_BOUNDS, y_MOST_DIGITS, y_MOST_SIGNS, y_MOST_TEXTS, y_MOST_WORDS, ⟨z_PARTS, z2_PARTS⟩, ⟨z_SIGNS, z2_SIGNS⟩, em⟩ := e
  obtain ⟨fd0, F0⟩ := c.def_ 0 (d := fn[0]) rfl
  obtain ⟨fd1, F1⟩ := c.def_ 1 (d := fn[1]) rfl
  obtain ⟨fd2, F2⟩ := c.def_ 2 (d := fn[2]) rfl
  exact {
    f_abs := He.free_ok X G (c.fact 49 (f := .free "abs") rfl)
    f_all := He.free_ok X G (c.fact 50 (f := .free "all") rfl)
    f_any := He.free_ok X G (c.fact 51 (f := .free "any") rfl)
    f_bool := He.free_ok X G (c.fact 52 (f := .free "bool") rfl)
    f_int := He.free_ok X G (c.fact 53 (f := .free "int") rfl)
    f_isinstance := He.free_ok X G (c.fact 54 (f := .free "isinstance") rfl)
    f_len := He.free_ok X G (c.fact 55 (f := .free "len") rfl)
    f_list := He.free_ok X G (c.fact 56 (f := .free "list") rfl)
    f_max := He.free_ok X G (c.fact 57 (f := .free "max") rfl)
    f_min := He.free_ok X G (c.fact 58 (f := .free "min") rfl)
    f_range := He.free_ok X G (c.fact 59 (f := .free "range") rfl)
    f_sorted := He.free_ok X G (c.fact 60 (f := .free "sorted") rfl)
    f_str := He.free_ok X G (c.fact 61 (f := .free "str") rfl)
    f_sum := He.free_ok X G (c.fact 62 (f := .free "sum") rfl)
    f_tuple := He.free_ok X G (c.fact 63 (f := .free "tuple") rfl)
    f_zip := He.free_ok X G (c.fact 64 (f := .free "zip") rfl)
    g_ALL := GlD.of X G (isG_ok y_ALL)
    g_BASE := GlD.of X G (isG_ok y_BASE)
    g_DIGITS := GlD.of X G (isG_ok y_DIGITS)
    g_END := GlD.of X G (isG_ok y_END)
    g_LETTERS := GlD.of X G (isG_ok y_LETTERS)
    g_MOST_ALTERNATIVES := GlD.of X G (isG_ok y_MOST_ALTERNATIVES)
    g_MOST_BOUNDS := GlD.of X G (isG_ok y_MOST_BOUNDS)
    g_MOST_DIGITS := GlD.of X G (isG_ok y_MOST_DIGITS)
    g_MOST_SIGNS := GlD.of X G (isG_ok y_MOST_SIGNS)
    g_MOST_TEXTS := GlD.of X G (isG_ok y_MOST_TEXTS)
    g_MOST_WORDS := GlD.of X G (isG_ok y_MOST_WORDS)
    g_PARTS := GlT.of X G (isG_ok z_PARTS) z2_PARTS
    g_SIGNS := GlT.of X G (isG_ok z_SIGNS) z2_SIGNS
    e_InvalidRange := ExT.of (st := h0) (qual := "InvalidRange.__init__") (He.glo_ok X G (c.fact 46 (f := .glo "InvalidRange") rfl)) x_InvalidRange F0 rfl rfl rfl (by decide) (by decide) (fun _ _ _ _ _ _ _ _ _ _ _ _ _ _ _ => by first | rfl | with_unfolding_all rfl)
    e_InvalidVersion := ExT.of (st := h1) (qual := "InvalidVersion.__init__") (He.glo_ok X G (c.fact 47 (f := .glo "InvalidVersion") rfl)) x_InvalidVersion F1 rfl rfl rfl (by decide) (by decide) (fun _ _ _ _ _ _ _ _ _ _ _ _ _ _ _ => by first | rfl | with_unfolding_all rfl)
    e_InvalidVersions := ExT.of (st := h2) (qual := "InvalidVersions.__init__") (He.glo_ok X G (c.fact 48 (f := .glo "InvalidVersions") rfl)) x_InvalidVersions F2 rfl rfl rfl (by decide) (by decide) (fun _ _ _ _ _ _ _ _ _ _ _ _ _ _ _ => by first | rfl | with_unfolding_all rfl)
    exm := fun c hc y hy => of_decide_eq_true (List.all_eq_true.mp (List.all_eq_true.mp em c hc) y hy) }
theorem facts {P : Program} {w : World} {K : PySem.W.Frag} {h : Heap} {mg : Str → Option Value} {f : Addr} (X : K.In h) (G : h.Ns mainGlobals mg) (hfa : mg ("law" : Str) = some (.ref f)) (c : He.SaysD fa fn K) (e : ex K = true) :
    ∃ fd : FuncData, (∀ (s : Shared) (v : Value), BindsTo s fd ⟨[v], []⟩ [("script", v)]) ∧ ∀ base : Heap, K.In base → base.Ns mainGlobals mg → (∀ y ∈ tl, LamX.TabB base mg (ca K y) (ta K y)) → FnOk P w K mg base (L2.CX P w) 18 f fd ["script"] (spD K 1 m_law) := by
  have Gx := fx X G c e
  obtain ⟨fd_are_digits, F_are_digits⟩ := c.def_ 3 (d := fn[3]) rfl
  have g_are_digits := He.glo_ok X G (c.fact 0 (f := .glo "are_digits") rfl)
  obtain ⟨fd_key_of, F_key_of⟩ := c.def_ 9 (d := fn[9]) rfl
  have g_key_of := He.glo_ok X G (c.fact 6 (f := .glo "key_of") rfl)
  obtain ⟨fd_number_of, F_number_of⟩ := c.def_ 11 (d := fn[11]) rfl
  have g_number_of := He.glo_ok X G (c.fact 8 (f := .glo "number_of") rfl)
  obtain ⟨fd_joined, F_joined⟩ := c.def_ 16 (d := fn[16]) rfl
  have g_joined := He.glo_ok X G (c.fact 13 (f := .glo "joined") rfl)
  obtain ⟨fd_has_number, F_has_number⟩ := c.def_ 20 (d := fn[20]) rfl
  have g_has_number := He.glo_ok X G (c.fact 17 (f := .glo "has_number") rfl)
  obtain ⟨fd__law_cell, F__law_cell⟩ := c.def_ 24 (d := fn[24]) rfl
  have g__law_cell := He.glo_ok X G (c.fact 21 (f := .glo "_law_cell") rfl)
  obtain ⟨fd__law_box, F__law_box⟩ := c.def_ 25 (d := fn[25]) rfl
  have g__law_box := He.glo_ok X G (c.fact 22 (f := .glo "_law_box") rfl)
  obtain ⟨fd__law_take, F__law_take⟩ := c.def_ 26 (d := fn[26]) rfl
  have g__law_take := He.glo_ok X G (c.fact 23 (f := .glo "_law_take") rfl)
  obtain ⟨fd__law_is_digits, F__law_is_digits⟩ := c.def_ 28 (d := fn[28]) rfl
  have g__law_is_digits := He.glo_ok X G (c.fact 25 (f := .glo "_law_is_digits") rfl)
  obtain ⟨fd__law_text, F__law_text⟩ := c.def_ 31 (d := fn[31]) rfl
  have g__law_text := He.glo_ok X G (c.fact 28 (f := .glo "_law_text") rfl)
  obtain ⟨fd__law_comes, F__law_comes⟩ := c.def_ 34 (d := fn[34]) rfl
  have g__law_comes := He.glo_ok X G (c.fact 31 (f := .glo "_law_comes") rfl)
  obtain ⟨fd__law_whole, F__law_whole⟩ := c.def_ 36 (d := fn[36]) rfl
  have g__law_whole := He.glo_ok X G (c.fact 33 (f := .glo "_law_whole") rfl)
  obtain ⟨fd__law_three, F__law_three⟩ := c.def_ 37 (d := fn[37]) rfl
  have g__law_three := He.glo_ok X G (c.fact 34 (f := .glo "_law_three") rfl)
  obtain ⟨fd__law_in, F__law_in⟩ := c.def_ 40 (d := fn[40]) rfl
  have g__law_in := He.glo_ok X G (c.fact 37 (f := .glo "_law_in") rfl)
  obtain ⟨fd__law_edges, F__law_edges⟩ := c.def_ 43 (d := fn[43]) rfl
  have g__law_edges := He.glo_ok X G (c.fact 40 (f := .glo "_law_edges") rfl)
  obtain ⟨fd_is_number, F_is_number⟩ := c.def_ 4 (d := fn[4]) rfl
  have g_is_number := He.glo_ok X G (c.fact 1 (f := .glo "is_number") rfl)
  obtain ⟨fd_word_of, F_word_of⟩ := c.def_ 6 (d := fn[6]) rfl
  have g_word_of := He.glo_ok X G (c.fact 3 (f := .glo "word_of") rfl)
  obtain ⟨fd_high_of, F_high_of⟩ := c.def_ 12 (d := fn[12]) rfl
  have g_high_of := He.glo_ok X G (c.fact 9 (f := .glo "high_of") rfl)
  obtain ⟨fd_has_parts, F_has_parts⟩ := c.def_ 21 (d := fn[21]) rfl
  have g_has_parts := He.glo_ok X G (c.fact 18 (f := .glo "has_parts") rfl)
  obtain ⟨fd__law_is_number, F__law_is_number⟩ := c.def_ 29 (d := fn[29]) rfl
  have g__law_is_number := He.glo_ok X G (c.fact 26 (f := .glo "_law_is_number") rfl)
  obtain ⟨fd__law_number, F__law_number⟩ := c.def_ 32 (d := fn[32]) rfl
  have g__law_number := He.glo_ok X G (c.fact 29 (f := .glo "_law_number") rfl)
  obtain ⟨fd__law_spoiled, F__law_spoiled⟩ := c.def_ 35 (d := fn[35]) rfl
  have g__law_spoiled := He.glo_ok X G (c.fact 32 (f := .glo "_law_spoiled") rfl)
  obtain ⟨fd_is_word, F_is_word⟩ := c.def_ 5 (d := fn[5]) rfl
  have g_is_word := He.glo_ok X G (c.fact 2 (f := .glo "is_word") rfl)
  obtain ⟨fd_bounds_of, F_bounds_of⟩ := c.def_ 13 (d := fn[13]) rfl
  have g_bounds_of := He.glo_ok X G (c.fact 10 (f := .glo "bounds_of") rfl)
  obtain ⟨fd__law_parts, F__law_parts⟩ := c.def_ 30 (d := fn[30]) rfl
  have g__law_parts := He.glo_ok X G (c.fact 27 (f := .glo "_law_parts") rfl)
  obtain ⟨fd__law_drawn_parts, F__law_drawn_parts⟩ := c.def_ 33 (d := fn[33]) rfl
  have g__law_drawn_parts := He.glo_ok X G (c.fact 30 (f := .glo "_law_drawn_parts") rfl)
  obtain ⟨fd__law_base, F__law_base⟩ := c.def_ 41 (d := fn[41]) rfl
  have g__law_base := He.glo_ok X G (c.fact 38 (f := .glo "_law_base") rfl)
  obtain ⟨fd__law_bent, F__law_bent⟩ := c.def_ 45 (d := fn[45]) rfl
  have g__law_bent := He.glo_ok X G (c.fact 42 (f := .glo "_law_bent") rfl)
  obtain ⟨fd_parts_in, F_parts_in⟩ := c.def_ 7 (d := fn[7]) rfl
  have g_parts_in := He.glo_ok X G (c.fact 4 (f := .glo "parts_in") rfl)
  obtain ⟨fd__law_bound, F__law_bound⟩ := c.def_ 38 (d := fn[38]) rfl
  have g__law_bound := He.glo_ok X G (c.fact 35 (f := .glo "_law_bound") rfl)
  obtain ⟨fd__law_range, F__law_range⟩ := c.def_ 42 (d := fn[42]) rfl
  have g__law_range := He.glo_ok X G (c.fact 39 (f := .glo "_law_range") rfl)
  obtain ⟨fd_parts_of, F_parts_of⟩ := c.def_ 8 (d := fn[8]) rfl
  have g_parts_of := He.glo_ok X G (c.fact 5 (f := .glo "parts_of") rfl)
  obtain ⟨fd_are_versions, F_are_versions⟩ := c.def_ 10 (d := fn[10]) rfl
  have g_are_versions := He.glo_ok X G (c.fact 7 (f := .glo "are_versions") rfl)
  obtain ⟨fd_bound_in, F_bound_in⟩ := c.def_ 14 (d := fn[14]) rfl
  have g_bound_in := He.glo_ok X G (c.fact 11 (f := .glo "bound_in") rfl)
  obtain ⟨fd__law_rows, F__law_rows⟩ := c.def_ 39 (d := fn[39]) rfl
  have g__law_rows := He.glo_ok X G (c.fact 36 (f := .glo "_law_rows") rfl)
  obtain ⟨fd_alternative_in, F_alternative_in⟩ := c.def_ 15 (d := fn[15]) rfl
  have g_alternative_in := He.glo_ok X G (c.fact 12 (f := .glo "alternative_in") rfl)
  obtain ⟨fd_rows_in, F_rows_in⟩ := c.def_ 17 (d := fn[17]) rfl
  have g_rows_in := He.glo_ok X G (c.fact 14 (f := .glo "rows_in") rfl)
  obtain ⟨fd_rows_of, F_rows_of⟩ := c.def_ 18 (d := fn[18]) rfl
  have g_rows_of := He.glo_ok X G (c.fact 15 (f := .glo "rows_of") rfl)
  obtain ⟨fd_is_range, F_is_range⟩ := c.def_ 19 (d := fn[19]) rfl
  have g_is_range := He.glo_ok X G (c.fact 16 (f := .glo "is_range") rfl)
  obtain ⟨fd_in_range, F_in_range⟩ := c.def_ 22 (d := fn[22]) rfl
  have g_in_range := He.glo_ok X G (c.fact 19 (f := .glo "in_range") rfl)
  obtain ⟨fd_best_in, F_best_in⟩ := c.def_ 23 (d := fn[23]) rfl
  have g_best_in := He.glo_ok X G (c.fact 20 (f := .glo "best_in") rfl)
  obtain ⟨fd__law_same, F__law_same⟩ := c.def_ 27 (d := fn[27]) rfl
  have g__law_same := He.glo_ok X G (c.fact 24 (f := .glo "_law_same") rfl)
  obtain ⟨fd__law_said, F__law_said⟩ := c.def_ 44 (d := fn[44]) rfl
  have g__law_said := He.glo_ok X G (c.fact 41 (f := .glo "_law_said") rfl)
  obtain ⟨fd__law_refused, F__law_refused⟩ := c.def_ 47 (d := fn[47]) rfl
  have g__law_refused := He.glo_ok X G (c.fact 44 (f := .glo "_law_refused") rfl)
  obtain ⟨fd__law_right, F__law_right⟩ := c.def_ 46 (d := fn[46]) rfl
  have g__law_right := He.glo_ok X G (c.fact 43 (f := .glo "_law_right") rfl)
  obtain ⟨fd_law, F_law⟩ := c.def_ 48 (d := fn[48]) rfl
  have g_law := He.glo_ok X G (c.fact 45 (f := .glo "law") rfl)
  cases hfa.symm.trans g_law
  have b := FunD.bindsA (ps := ["script"]) F_law fun _ _ _ _ _ _ us hl => match us, hl with | [_], _ => rfl
  refine ⟨fd_law, fun s v => b s [v] rfl, fun base _ _ hTB => ?_⟩
  have D_are_digits := d_are_digits (P := P) (w := w) (base := base) Gx  F_are_digits g_are_digits
  have D_key_of := d_key_of (P := P) (w := w) (base := base) Gx  F_key_of g_key_of
  have D_number_of := d_number_of (P := P) (w := w) (base := base) Gx  F_number_of g_number_of
  have D_joined := d_joined (P := P) (w := w) (base := base) Gx  F_joined g_joined
  have D_has_number := d_has_number (P := P) (w := w) (base := base) Gx  F_has_number g_has_number
  have D__law_cell := d__law_cell (P := P) (w := w) (base := base) Gx  F__law_cell g__law_cell
  have D__law_box := d__law_box (P := P) (w := w) (base := base) Gx  F__law_box g__law_box
  have D__law_take := d__law_take (P := P) (w := w) (base := base) Gx  F__law_take g__law_take
  have D__law_is_digits := d__law_is_digits (P := P) (w := w) (base := base) Gx  F__law_is_digits g__law_is_digits
  have D__law_text := d__law_text (P := P) (w := w) (base := base) Gx  F__law_text g__law_text
  have D__law_comes := d__law_comes (P := P) (w := w) (base := base) Gx  F__law_comes g__law_comes
  have D__law_whole := d__law_whole (P := P) (w := w) (base := base) Gx  F__law_whole g__law_whole
  have D__law_three := d__law_three (P := P) (w := w) (base := base) Gx  F__law_three g__law_three
  have D__law_in := d__law_in (P := P) (w := w) (base := base) Gx  F__law_in g__law_in
  have D__law_edges := d__law_edges (P := P) (w := w) (base := base) Gx  F__law_edges g__law_edges
  have D_is_number := d_is_number (P := P) (w := w) (base := base) Gx D_are_digits F_is_number g_is_number
  have D_word_of := d_word_of (P := P) (w := w) (base := base) Gx D_are_digits F_word_of g_word_of
  have D_high_of := d_high_of (P := P) (w := w) (base := base) Gx D_number_of F_high_of g_high_of
  have D_has_parts := d_has_parts (P := P) (w := w) (base := base) Gx D_number_of D_has_number F_has_parts g_has_parts
  have D__law_is_number := d__law_is_number (P := P) (w := w) (base := base) Gx D__law_is_digits F__law_is_number g__law_is_number
  have D__law_number := d__law_number (P := P) (w := w) (base := base) Gx D__law_take F__law_number g__law_number
  have D__law_spoiled := d__law_spoiled (P := P) (w := w) (base := base) Gx D__law_take F__law_spoiled g__law_spoiled
  have D_is_word := d_is_word (P := P) (w := w) (base := base) Gx D_are_digits D_is_number F_is_word g_is_word
  have D_bounds_of := d_bounds_of (P := P) (w := w) (base := base) Gx D_number_of D_high_of F_bounds_of g_bounds_of
  have D__law_parts := d__law_parts (P := P) (w := w) (base := base) Gx D__law_is_digits D__law_is_number F__law_parts g__law_parts
  have D__law_drawn_parts := d__law_drawn_parts (P := P) (w := w) (base := base) Gx D__law_take D__law_number F__law_drawn_parts g__law_drawn_parts
  have D__law_base := d__law_base (P := P) (w := w) (base := base) Gx D__law_take D__law_number F__law_base g__law_base
  have D__law_bent := d__law_bent (P := P) (w := w) (base := base) Gx D__law_take D__law_spoiled F__law_bent g__law_bent
  have D_parts_in := d_parts_in (P := P) (w := w) (base := base) Gx D_is_number D_is_word D_word_of F_parts_in g_parts_in
  have D__law_bound := d__law_bound (P := P) (w := w) (base := base) Gx D__law_parts D__law_whole F__law_bound g__law_bound
  have D__law_range := d__law_range (P := P) (w := w) (base := base) Gx D__law_take D__law_text D__law_base F__law_range g__law_range
  have D_parts_of := d_parts_of (P := P) (w := w) (base := base) Gx D_parts_in F_parts_of g_parts_of
  have D_are_versions := d_are_versions (P := P) (w := w) (base := base) Gx D_parts_in F_are_versions g_are_versions
  have D_bound_in := d_bound_in (P := P) (w := w) (base := base) Gx D_parts_in D_bounds_of F_bound_in g_bound_in
  have D__law_rows := d__law_rows (P := P) (w := w) (base := base) Gx D__law_bound F__law_rows g__law_rows
  have D_alternative_in := d_alternative_in (P := P) (w := w) (base := base) Gx D_bound_in F_alternative_in g_alternative_in
  have D_rows_in := d_rows_in (P := P) (w := w) (base := base) Gx D_alternative_in D_joined F_rows_in g_rows_in
  have D_rows_of := d_rows_of (P := P) (w := w) (base := base) Gx D_rows_in F_rows_of g_rows_of
  have D_is_range := d_is_range (P := P) (w := w) (base := base) Gx D_rows_in F_is_range g_is_range
  have D_in_range := d_in_range (P := P) (w := w) (base := base) Gx D_parts_of D_rows_of D_has_parts F_in_range g_in_range
  have D_best_in := d_best_in (P := P) (w := w) (base := base) Gx D_parts_in D_key_of D_are_versions D_rows_of D_has_parts (hTB "best_in" (by decide)) F_best_in g_best_in
  have D__law_same := d__law_same (P := P) (w := w) (base := base) Gx  F__law_same g__law_same 12
  have D__law_said := d__law_said (P := P) (w := w) (base := base) Gx D_in_range D_best_in F__law_said g__law_said
  have D__law_refused := d__law_refused (P := P) (w := w) (base := base) Gx D_is_range D__law_take D__law_same D__law_rows D__law_said D__law_bent F__law_refused g__law_refused
  have D__law_right := d__law_right (P := P) (w := w) (base := base) Gx D_is_range D__law_take D__law_same D__law_text D__law_comes D__law_whole D__law_three D__law_rows D__law_in D__law_base D__law_range D__law_edges D__law_said D__law_refused F__law_right g__law_right
  exact FnOk.ofJC F_law sc_law fun cdv A outer s H E ds hl hr => match ds, hl with | [a], _ => b_law Gx D__law_cell D__law_box D__law_right hr a
end Hd

set_option maxRecDepth 100000
set_option autoImplicit false
/-! PB: plain laws about the monad M and the mirrors' words. -/
namespace DL
open PySem TL
@[simp] theorem truthB_bl (b : Bool) : truthB (.bl b) = pure b := rfl
@[simp] theorem bad_bind {α β : Type} (k : α → M β) : (M.bad >>= k) = M.bad := rfl
@[simp] theorem asInt_int (i : Int) : Op.asInt (.int i) = pure i := rfl
@[simp] theorem lay_int (n : Nat) (i : Int) : D.lay n (.int i) = true := by cases n <;> rfl
@[simp] theorem lay_str (n : Nat) (i : Str) : D.lay n (.str i) = true := by cases n <;> rfl
@[simp] theorem lay_bl (n : Nat) (i : Bool) : D.lay n (.bl i) = true := by cases n <;> rfl
@[simp] theorem lay_non (n : Nat) : D.lay n .non = true := by cases n <;> rfl
@[simp] theorem lay_lst (n : Nat) (xs : List D) : D.lay (n + 1) (.lst xs) = xs.all (D.lay n) := rfl
@[simp] theorem lay_tup (n : Nat) (xs : List D) : D.lay (n + 1) (.tup xs) = xs.all (D.lay n) := rfl
theorem eq_of {d e : D} (h1 : D.lay 40 d = true) (h2 : D.lay 40 e = true) : Op.eq d e = pure (.bl (D.eqb d e)) := by unfold Op.eq; rw [h1, h2]; rfl
theorem ne_of {d e : D} (h1 : D.lay 40 d = true) (h2 : D.lay 40 e = true) : Op.ne d e = pure (.bl (!D.eqb d e)) := by unfold Op.ne; rw [h1, h2]; rfl
@[simp] theorem eq_ss (x y : Str) : Op.eq (.str x) (.str y) = pure (.bl (x == y)) := eq_of (by simp) (by simp)
@[simp] theorem ne_ss (x y : Str) : Op.ne (.str x) (.str y) = pure (.bl (!(x == y))) := ne_of (by simp) (by simp)
@[simp] theorem eq_ii (x y : Int) : Op.eq (.int x) (.int y) = pure (.bl (x == y)) := eq_of (by simp) (by simp)
@[simp] theorem ne_ii (x y : Int) : Op.ne (.int x) (.int y) = pure (.bl (!(x == y))) := ne_of (by simp) (by simp)
@[simp] theorem eq_bb (x y : Bool) : Op.eq (.bl x) (.bl y) = pure (.bl (x == y)) := eq_of (by simp) (by simp)
@[simp] theorem ne_bb (x y : Bool) : Op.ne (.bl x) (.bl y) = pure (.bl (!(x == y))) := ne_of (by simp) (by simp)
@[simp] theorem add_ii (i j : Int) : Op.add (.int i) (.int j) = pure (.int (i + j)) := rfl
@[simp] theorem sub_ii (i j : Int) : Op.sub (.int i) (.int j) = pure (.int (i - j)) := rfl
@[simp] theorem le_ii (i j : Int) : Op.le (.int i) (.int j) = pure (.bl (decide (i ≤ j))) := rfl
@[simp] theorem lt_ii (i j : Int) : Op.lt (.int i) (.int j) = pure (.bl (decide (i < j))) := rfl
@[simp] theorem gt_ii (i j : Int) : Op.gt (.int i) (.int j) = pure (.bl (decide (j < i))) := rfl
@[simp] theorem ge_ii (i j : Int) : Op.ge (.int i) (.int j) = pure (.bl (decide (j ≤ i))) := rfl
@[simp] theorem leG_ii (i j : Int) : Op.leG (.int i) (.int j) = pure (.bl (decide (i ≤ j))) := rfl
@[simp] theorem ltG_ii (i j : Int) : Op.ltG (.int i) (.int j) = pure (.bl (decide (i < j))) := rfl
@[simp] theorem gtG_ii (i j : Int) : Op.gtG (.int i) (.int j) = pure (.bl (decide (j < i))) := rfl
@[simp] theorem geG_ii (i j : Int) : Op.geG (.int i) (.int j) = pure (.bl (decide (j ≤ i))) := rfl
theorem lenOk_of {n : Nat} (h : n ≤ 16777216) : Op.lenOk n = true := decide_eq_true h
@[simp] theorem len_lst (xs : List D) : Bi.len [.lst xs] = pure (.int xs.length) := rfl
@[simp] theorem len_tup (xs : List D) : Bi.len [.tup xs] = pure (.int xs.length) := rfl
@[simp] theorem len_dct (xs : List (D × D)) : Bi.len [.dct xs] = pure (.int xs.length) := rfl
theorem len_str {z : Str} (h : z.length ≤ 16777216) : Bi.len [.str z] = pure (.int z.length) := by unfold Bi.len; simp [lenOk_of h]
@[simp] theorem items_lst (xs : List D) : itemsOf (.lst xs) = pure xs := rfl
@[simp] theorem items_tup (xs : List D) : itemsOf (.tup xs) = pure xs := rfl
@[simp] theorem isStr_str (x : Str) : Me.isStr (.str x) = pure () := rfl
/-! comprehensions -/
theorem compM_pure {f : D → M (Option D)} {g : D → Option D} : ∀ {xs : List D}, (∀ x ∈ xs, f x = pure (g x)) → compM f xs = pure (xs.filterMap g)
  | [], _ => rfl
  | x :: xs, h => by
    unfold compM
    rw [h x (by simp), compM_pure fun y hy => h y (by simp [hy])]
    have : M.nx (pure (g x) : M (Option D)) = pure (g x) := rfl
    rw [this, pure_bind, pure_bind]
    cases e : g x <;> simp [e]
theorem comp_pure {f : D → M (Option D)} {g : D → Option D} {xs : List D} (h : ∀ x ∈ xs, f x = pure (g x)) (hl : xs.length ≤ 16777216) : comp f xs = pure (.lst (xs.filterMap g)) := by
  unfold comp finL
  rw [compM_pure h, pure_bind, lenOk_of (Nat.le_trans (List.length_filterMap_le ..) hl)]
  rfl
theorem comp_map {f : D → M (Option D)} {g : D → D} {xs : List D} (h : ∀ x ∈ xs, f x = pure (some (g x))) (hl : xs.length ≤ 16777216) : comp f xs = pure (.lst (xs.map g)) := by
  rw [comp_pure (g := fun x => some (g x)) h hl, ← List.filterMap_eq_map]
  rfl
theorem comp_filter {f : D → M (Option D)} {p : D → Bool} {xs : List D} (h : ∀ x ∈ xs, f x = pure (if p x then some x else none)) (hl : xs.length ≤ 16777216) : comp f xs = pure (.lst (xs.filter p)) := by
  rw [comp_pure (g := fun x => if p x then some x else none) h hl]
  congr 2
  induction xs with
  | nil => rfl
  | cons x xs ih =>
    simp only [List.length_cons] at hl
    have ih' := ih (fun y hy => h y (by simp [hy])) (by omega)
    by_cases c : p x = true
    · simp [c, ih']
    · simp [c, ih']
theorem comp_mapF {α : Type} {f : D → M (Option D)} {h g : α → D} {xs : List α} (hf : ∀ a ∈ xs, f (h a) = pure (some (g a))) (hl : xs.length ≤ 16777216) : comp f (xs.map h) = pure (.lst (xs.map g)) := by
  unfold comp finL
  have : ∀ ys : List α, (∀ a ∈ ys, f (h a) = pure (some (g a))) → compM f (ys.map h) = pure (ys.map g) := by
    intro ys
    induction ys with
    | nil => intro _; rfl
    | cons a ys ih =>
      intro hh
      rw [List.map_cons]
      unfold compM
      rw [hh a (by simp), ih fun b hb => hh b (by simp [hb])]
      rfl
  rw [this xs hf, pure_bind, lenOk_of (by simpa using hl)]
  rfl
theorem comp_filtF {α : Type} {f : D → M (Option D)} {h : α → D} {p : α → Bool} {xs : List α} (hf : ∀ a ∈ xs, f (h a) = pure (if p a then some (h a) else none)) (hl : xs.length ≤ 16777216) : comp f (xs.map h) = pure (.lst ((xs.filter p).map h)) := by
  unfold comp finL
  have : ∀ ys : List α, (∀ a ∈ ys, f (h a) = pure (if p a then some (h a) else none)) → compM f (ys.map h) = pure ((ys.filter p).map h) := by
    intro ys
    induction ys with
    | nil => intro _; rfl
    | cons a ys ih =>
      intro hh
      rw [List.map_cons]
      unfold compM
      rw [hh a (by simp), ih fun b hb => hh b (by simp [hb])]
      cases c : p a
      · simp only [List.filter_cons, c, Bool.false_eq_true, if_false]; rfl
      · simp only [List.filter_cons, c, if_true]; rfl
  rw [this xs hf, pure_bind, lenOk_of (by rw [List.length_map]; exact Nat.le_trans (List.length_filter_le ..) hl)]
  rfl
theorem filt_empty {α β : Type} (p : α → Bool) (h : α → β) : ∀ l : List α, ((l.filter fun c => !p c).map h).isEmpty = l.all p
  | [] => rfl
  | a :: l => by
    have ih := filt_empty p h l
    cases c : p a
    · simp [c]
    · simp only [List.filter_cons, c, Bool.not_true, Bool.false_eq_true, if_false, List.all_cons, Bool.true_and]
      exact ih
theorem atI_zero {α : Type} (c : α) (r : List α) : L2.atI (c :: r) 0 = some c := by
  simp [L2.atI, L2.ixN]
/-! all, any -/
theorem blsOf_map {α : Type} (p : α → Bool) (xs : List α) : Bi.blsOf (xs.map fun x => D.bl (p x)) = some (xs.map p) := by
  have := Bi.bls_map (xs.map p)
  rw [List.map_map] at this
  exact this
@[simp] theorem all_bl {α : Type} (p : α → Bool) (xs : List α) : Bi.all [.lst (xs.map fun x => D.bl (p x))] = pure (.bl (xs.all p)) := by
  show Bi.opt (Bi.blsOf _) _ = _
  rw [blsOf_map]
  show pure (D.bl ((xs.map p).all id)) = _
  rw [List.all_map]; rfl
/-- texts by signs -/
abbrev sg (c : Nat) : Str := ⟨#[c]⟩
theorem strIn_sg (c : Nat) (y : Str) : Op.strIn (sg c) y = decide (c ∈ tl y) := by
  unfold Op.strIn
  exact PySem.StrLaws.found_one y c
@[simp] theorem isIn_sg (c : Nat) (y : Str) : Op.isIn (.str (sg c)) (.str y) = pure (.bl (decide (c ∈ tl y))) := by
  show (match (some (Op.strIn (sg c) y) : Option Bool) with | some b => (pure (.bl b) : M D) | none => M.bad) = _
  rw [strIn_sg]
@[simp] theorem notIn_sg (c : Nat) (y : Str) : Op.notIn (.str (sg c)) (.str y) = pure (.bl (!decide (c ∈ tl y))) := by
  show (match (some (Op.strIn (sg c) y) : Option Bool) with | some b => (pure (.bl !b) : M D) | none => M.bad) = _
  rw [strIn_sg]
@[simp] theorem items_str (z : Str) : itemsOf (.str z) = pure ((tl z).map fun c => D.str (sg c)) := rfl
theorem tl_len (z : Str) : (tl z).length = z.length := (len_tl z).symm
end DL

set_option maxRecDepth 100000
set_option autoImplicit false
set_option maxHeartbeats 1000000
/-! PA32: the plain law of law_k32, part A: texts. -/
namespace Pl
open PySem DL TL Mi
abbrev big : Nat := 16777216
def dig (c : Nat) : Bool := decide (c ∈ tl ("0123456789" : Str))
def low (c : Nat) : Bool := decide (c ∈ tl ("abcdefghijklmnopqrstuvwxyz" : Str))
def digs (t : Str) : Bool := !(t == ("" : Str)) && (tl t).all dig
theorem are_digits {t : Str} (h : t.length ≤ big) : m_are_digits [.str t] = pure (.bl (digs t)) := by
  unfold m_are_digits c_DIGITS
  simp only [pure_bind, ne_ss, truthB_bl, items_str]
  unfold digs
  cases e : (t == ("" : Str))
  · simp only [Bool.not_false, if_true, Bool.true_and]
    rw [comp_mapF (g := fun c => D.bl (dig c)) (fun a _ => by simp [dig]) (by rw [tl_len]; exact h)]
    simp only [pure_bind, all_bl]
  · simp
theorem nil_eq {xs : List D} (h : xs.all (D.lay 39) = true) : Op.eq (.lst xs) (.lst []) = pure (.bl xs.isEmpty) := by
  rw [eq_of (by rw [lay_lst]; exact h) (by simp)]
  cases xs <;> simp [D.eqb, D.eqbL]
theorem nil_ne {xs : List D} (h : xs.all (D.lay 39) = true) : Op.ne (.lst xs) (.lst []) = pure (.bl (!xs.isEmpty)) := by
  rw [ne_of (by rw [lay_lst]; exact h) (by simp)]
  cases xs <;> simp [D.eqb, D.eqbL]
@[simp] theorem mkL_nil : Op.mkL [] = pure (.lst []) := rfl
theorem law_is_digits {t : Str} (h : t.length ≤ big) : m__law_is_digits [.str t] = pure (.bl (digs t)) := by
  unfold m__law_is_digits
  simp only [pure_bind, ne_ss, truthB_bl, items_str]
  unfold digs
  cases e : (t == ("" : Str))
  · simp only [Bool.not_false, if_true, Bool.true_and]
    rw [comp_filtF (p := fun c => !dig c) (fun a _ => by cases q : dig a <;> simp [dig] at q <;> simp [dig, q]) (by rw [tl_len]; exact h)]
    simp only [pure_bind, mkL_nil]
    rw [nil_eq (by simp)]
    rw [filt_empty]
  · simp
def isNum (t : Str) (m : Int) : Bool := digs t && (decide ((t.length : Int) ≤ m) && (t == ("0" : Str) || (match (tl t) with | c :: _ => !(sg c == ("0" : Str)) | [] => false)))
theorem idx0 {t : Str} (h : t.length ≤ big) {c : Nat} {r : List Nat} (e : tl t = c :: r) : Op.idx (.str t) (.int 0) = pure (.str (sg c)) := by
  have e' : t.cps.toList = c :: r := e
  funext s
  show (match Op.at0 (.str t) 0 with | some x => Res.ok x s | none => Res.bad) = Res.ok (.str (sg c)) s
  have : Op.at0 (.str t) 0 = some (.str (sg c)) := by
    show (if Op.lenOk t.length then (L2.atI t.cps.toList 0).map fun c => D.str ⟨#[c]⟩ else none) = _
    rw [lenOk_of h, e', atI_zero]
    rfl
  rw [this]
theorem digs_ne {t : Str} (h : digs t = true) : ∃ c r, tl t = c :: r := by
  unfold digs at h
  cases e : tl t with
  | nil =>
    have : t = ("" : Str) := ext_tl (by rw [e]; rfl)
    rw [this] at h
    simp at h
  | cons c r => exact ⟨c, r, rfl⟩
theorem is_number {t : Str} {m : Int} (h : t.length ≤ big) : m_is_number [.str t, .int m] = pure (.bl (isNum t m)) := by
  unfold m_is_number
  simp only [pure_bind, are_digits h, truthB_bl, len_str h, leG_ii, eq_ss]
  unfold isNum
  cases e : digs t
  · simp
  · obtain ⟨c, r, q⟩ := digs_ne e
    simp only [if_true, Bool.true_and, q]
    cases decide ((t.length : Int) ≤ m)
    · simp
    · simp only [if_true, Bool.true_and]
      cases e2 : (t == ("0" : Str))
      · simp only [Bool.false_eq_true, if_false, Bool.false_or]
        rw [idx0 h q]
        simp
      · simp
theorem law_is_number {t : Str} {m : Int} (h : t.length ≤ big) : m__law_is_number [.str t, .int m] = pure (.bl (isNum t m)) := by
  unfold m__law_is_number
  simp only [pure_bind, law_is_digits h, truthB_bl, len_str h, leG_ii, eq_ss]
  unfold isNum
  cases e : digs t
  · simp
  · obtain ⟨c, r, q⟩ := digs_ne e
    simp only [if_true, Bool.true_and, q]
    cases decide ((t.length : Int) ≤ m)
    · simp
    · simp only [if_true, Bool.true_and]
      cases e2 : (t == ("0" : Str))
      · simp only [Bool.false_eq_true, if_false, Bool.false_or]
        rw [idx0 h q]
        simp
      · simp
def isWord (t : Str) : Bool := decide ((1 : Int) ≤ (t.length : Int)) && (decide ((t.length : Int) ≤ 6) && ((tl t).all (fun c => low c || dig c) && (!digs t || isNum t 6)))
theorem is_word {t : Str} (h : t.length ≤ big) : m_is_word [.str t] = pure (.bl (isWord t)) := by
  unfold m_is_word c_MOST_SIGNS c_LETTERS c_DIGITS
  simp only [pure_bind, len_str h, leG_ii, truthB_bl, items_str, are_digits h, is_number h]
  rw [comp_mapF (g := fun c => D.bl (low c || dig c)) (fun a _ => by cases q : low a <;> simp [low] at q <;> simp [low, dig, q]) (by rw [tl_len]; exact h)]
  simp only [pure_bind, all_bl, truthB_bl]
  unfold isWord
  generalize decide ((1 : Int) ≤ (t.length : Int)) = b1
  generalize decide ((t.length : Int) ≤ 6) = b2
  generalize (tl t).all (fun c => low c || dig c) = b3
  generalize digs t = b4
  generalize isNum t 6 = b5
  cases b1 <;> cases b2 <;> cases b3 <;> cases b4 <;> cases b5 <;> rfl
end Pl

set_option maxRecDepth 100000
set_option autoImplicit false
set_option maxHeartbeats 1000000
/-! PC32: part B: the parts of a text. -/
namespace Pl
open PySem DL TL Mi L2
abbrev dot : Str := (("." : String) : Str)
abbrev dash : Str := (("-" : String) : Str)
theorem le_sum {n : Nat} : ∀ {l : List Nat}, n ∈ l → n ≤ l.sum
  | a :: l, h => by
    rcases List.mem_cons.mp h with e | h
    · subst e; simp
    · have := le_sum h; simp; omega
theorem split_mem {x p : Str} (h : p ∈ Txt.split x dot) : p.length ≤ x.length := by
  have w := PyProof.Rows.split_weight x dot (by decide)
  have : p.length ≤ ((Txt.split x dot).map (·.length)).sum := le_sum (List.mem_map_of_mem h)
  have := List.length_pos_of_mem h
  omega
theorem split_n (x : Str) : (Txt.split x dot).length ≤ x.length + 1 := by
  have w := PyProof.Rows.split_weight x dot (by decide)
  omega
theorem m_split {t : Str} (h : t.length ≤ 1000) : Me.split (.str t) [.str dot] = pure (.lst ((Txt.split t dot).map D.str)) := by
  show (if decide ((dot.length == 0) = false ∧ t.length + 2 ≤ 16777216) then (pure (.lst ((Txt.split t dot).map D.str)) : M D) else M.bad) = _
  rw [if_pos]
  exact decide_eq_true ⟨by decide, by omega⟩
/-- head, mark, tail -/
theorem m_part {t : Str} (h : t.length ≤ 1000) : Me.partition (.str t) [.str dash] = pure (.tup [.str (Txt.partition t dash).1, .str (Txt.partition t dash).2.1, .str (Txt.partition t dash).2.2]) := by
  show (if decide ((dash.length == 0) = false ∧ t.length ≤ 16777216) then _ else M.bad) = _
  rw [if_pos]
  exact decide_eq_true ⟨by decide, by omega⟩
theorem cut_of {t : Str} {i : Nat} (hi : i ≤ t.length) : cutS t none (some (i : Int)) = Builtin.Str.strSub t 0 i := by
  apply ext_tl
  rw [tl_strSub]
  show ((tl t).drop (HT.sIx t.length 0 none)).take _ = _
  rw [HT.sIx_none, HT.sIx_nat]
  simp [Nat.min_eq_left hi]
theorem cut_to {t : Str} {i : Nat} (hi : i ≤ t.length) : cutS t (some (i : Int)) none = Builtin.Str.strSub t i t.length := by
  apply ext_tl
  rw [tl_strSub]
  show ((tl t).drop (HT.sIx t.length 0 (some (i : Int)))).take _ = _
  rw [HT.sIx_none, HT.sIx_nat]
  simp [Nat.min_eq_left hi]
/-- where the first dash stands -/
theorem find_part (t : Str) : (Txt.find t dash = -1 ∧ Txt.partition t dash = (t, Str.empty, Str.empty)) ∨ ∃ i : Nat, i + 1 ≤ t.length ∧ Txt.find t dash = (i : Int) ∧ Txt.partition t dash = (Builtin.Str.strSub t 0 i, dash, Builtin.Str.strSub t (i + 1) t.length) := by
  unfold Txt.find Txt.partition
  cases e : Builtin.Str.occurrences t dash 0 t.length 1 with
  | nil => exact .inl ⟨rfl, rfl⟩
  | cons i r =>
    refine .inr ⟨i, ?_, rfl, rfl⟩
    have := PySem.StrLaws.occ_spec t dash 0 t.length 1 i (by rw [e]; simp)
    have h1 : dash.length = 1 := by decide
    omega
theorem sub_len (t : Str) (i j : Nat) : (Builtin.Str.strSub t i j).length ≤ t.length := by
  rw [len_tl, tl_strSub, len_tl]
  simp only [List.length_take, List.length_drop]
  omega
def numD (t : Str) : D := .int ((NumText.digitsVal (tl t) : Nat) : Int)
def wordD (t : Str) : D := if digs t then numD t else .str t
def okP (ns ws : List Str) : Bool := (decide (ns.length = 3) && ns.all (isNum · 4)) && (decide (ws.length ≤ 3) && ws.all isWord)
def partsD (ns ws : List Str) : D := if okP ns ws then .tup (ns.map numD ++ [.tup (ws.map wordD)]) else .non
def cutN (t : Str) : List Str := Txt.split (Txt.partition t dash).1 dot
def cutW (t : Str) : List Str := if (Txt.partition t dash).2.1 == ("" : Str) then [] else Txt.split (Txt.partition t dash).2.2 dot
theorem dig_ok {c : Nat} (h : dig c = true) : 48 ≤ c ∧ c ≤ 57 := by
  unfold dig at h
  have h' : c ∈ tl ("0123456789" : Str) := of_decide_eq_true h
  have e : tl ("0123456789" : Str) = [48, 49, 50, 51, 52, 53, 54, 55, 56, 57] := by decide +kernel
  rw [e] at h'
  simp at h'
  omega
theorem digs_all {t : Str} (h : digs t = true) : NumText.AllDigits (tl t) := by
  unfold digs at h
  simp only [Bool.and_eq_true, List.all_eq_true] at h
  exact fun c hc => dig_ok (h.2 c hc)
theorem int_str {t : Str} (h : digs t = true) (hl : t.length ≤ 640) : Bi.int [.str t] = pure (numD t) := by
  obtain ⟨c, r, e⟩ := digs_ne h
  show (if decide (t.length ≤ 640) then Bi.opt (PySem.intText? t) fun n => (pure (.int n) : M D) else M.bad) = _
  rw [if_pos (decide_eq_true hl), PySem.intText_digits (digs_all h) (by rw [show t.cps.toList = c :: r from e]; simp) (by omega)]
  rfl
theorem isNum_digs {t : Str} {m : Int} (h : isNum t m = true) : digs t = true ∧ (t.length : Int) ≤ m := by
  unfold isNum at h
  simp only [Bool.and_eq_true, decide_eq_true_eq] at h
  exact ⟨h.1, h.2.1⟩
theorem isWord_len {t : Str} (h : isWord t = true) : t.length ≤ 6 := by
  unfold isWord at h
  simp only [Bool.and_eq_true, decide_eq_true_eq] at h
  omega
theorem word_of {t : Str} (h : t.length ≤ 640) : m_word_of [.str t] = pure (wordD t) := by
  unfold m_word_of wordD
  simp only [pure_bind, are_digits (show t.length ≤ big by unfold big; omega), truthB_bl]
  cases e : digs t
  · simp
  · simp only [if_true]
    rw [int_str e h]
@[simp] theorem isi_str (t : Str) : Bi.isi "str" (.str t) = pure (.bl true) := rfl
@[simp] theorem un3_tup (a b c : D) : un3 (.tup [a, b, c]) = pure (a, b, c) := rfl
@[simp] theorem len_parts : Bi.len [c_PARTS] = pure (.int 3) := rfl
@[simp] theorem tuple_lst (xs : List D) : Bi.tuple [.lst xs] = pure (.tup xs) := rfl
@[simp] theorem tuple_tup (xs : List D) : Bi.tuple [.tup xs] = pure (.tup xs) := rfl
@[simp] theorem seqOf_lst (xs : List D) : Op.seqOf (.lst xs) = pure xs := rfl
@[simp] theorem seqOf_tup (xs : List D) : Op.seqOf (.tup xs) = pure xs := rfl
theorem mkT_of {xs : List D} (h : xs.length ≤ 16777216) : Op.mkT xs = pure (.tup xs) := by unfold Op.mkT; rw [lenOk_of h]; rfl
theorem mkL_of {xs : List D} (h : xs.length ≤ 16777216) : Op.mkL xs = pure (.lst xs) := by unfold Op.mkL; rw [lenOk_of h]; rfl
theorem cutN_mem {t p : Str} (ht : t.length ≤ 1000) (h : p ∈ cutN t) : p.length ≤ 1000 := by
  have := split_mem h
  have h2 : (Txt.partition t dash).1.length ≤ t.length := by
    rcases find_part t with ⟨_, e⟩ | ⟨i, _, _, e⟩ <;> rw [e]
    · exact Nat.le_refl _
    · exact sub_len ..
  omega
theorem head_len {t : Str} : (Txt.partition t dash).1.length ≤ t.length := by
  rcases find_part t with ⟨_, e⟩ | ⟨i, _, _, e⟩ <;> rw [e]
  · exact Nat.le_refl _
  · exact sub_len ..
theorem tail_len {t : Str} : (Txt.partition t dash).2.2.length ≤ t.length := by
  rcases find_part t with ⟨_, e⟩ | ⟨i, _, _, e⟩ <;> rw [e]
  · exact Nat.zero_le _
  · exact sub_len ..
theorem parts_in {t : Str} (h : t.length ≤ 1000) : m_parts_in [.str t] = pure (partsD (cutN t) (cutW t)) := by
  have h1 := @head_len t
  have h2 := @tail_len t
  unfold m_parts_in c_MOST_DIGITS c_MOST_WORDS
  simp only [pure_bind, isi_str, truthB_bl, Bool.not_true, Bool.false_eq_true, if_false, isStr_str, m_part h, un3_tup, ne_ss, len_parts]
  rw [m_split (by omega)]
  have hW : (if (!((Txt.partition t dash).2.1 == ("" : Str))) = true then Me.split (.str (Txt.partition t dash).2.2) [.str dot] else Op.mkL []) = pure (.lst ((cutW t).map D.str)) := by
    unfold cutW
    cases e : ((Txt.partition t dash).2.1 == ("" : Str))
    · simp only [Bool.not_false, if_true, Bool.false_eq_true, if_false]
      exact m_split (by omega)
    · rfl
  rw [hW]
  have hn : ∀ p ∈ cutN t, p.length ≤ 1000 := fun p hp => cutN_mem h hp
  have hw : ∀ p ∈ cutW t, p.length ≤ 1000 := fun p hp => by
    unfold cutW at hp
    split at hp
    · cases hp
    · have := split_mem hp; omega
  have ln : (cutN t).length ≤ 2000 := by have := split_n (Txt.partition t dash).1; unfold cutN; omega
  have lw : (cutW t).length ≤ 2000 := by
    unfold cutW
    split
    · simp
    · have := split_n (Txt.partition t dash).2.2; omega
  change ((pure (D.lst ((cutN t).map D.str)) : M D) >>= _) = _
  generalize cutN t = ns at *
  generalize cutW t = ws at *
  simp only [pure_bind, len_lst, ne_ii, truthB_bl, items_lst, gtG_ii, List.length_map]
  rw [comp_mapF (g := fun s => D.bl (isNum s 4)) (fun a ha => by simp [is_number (show a.length ≤ big by have := hn a ha; unfold big; omega)]) (by omega)]
  rw [comp_mapF (g := fun s => D.bl (isWord s)) (fun a ha => by simp [is_word (show a.length ≤ big by have := hw a ha; unfold big; omega)]) (by omega)]
  simp only [pure_bind, all_bl, truthB_bl]
  unfold partsD okP
  cases e1 : ns.all (isNum · 4)
  · by_cases c : ns.length = 3
    · simp [c]
    · simp [c]
  · by_cases c : ns.length = 3
    · rw [comp_mapF (g := numD) (fun a ha => by
        have z := isNum_digs (List.all_eq_true.mp e1 a ha)
        simp [int_str z.1 (by omega)]) (by omega)]
      cases e2 : ws.all isWord
      · by_cases c2 : ws.length ≤ 3
        · have : ¬ (3 : Int) < (ws.length : Int) := by omega
          simp [c, c2, this]
        · have : (3 : Int) < (ws.length : Int) := by omega
          simp [c, c2, this]
      · by_cases c2 : ws.length ≤ 3
        · have hlt : ¬ (3 : Int) < (ws.length : Int) := by omega
          rw [comp_mapF (g := wordD) (fun a ha => by simp [word_of (show a.length ≤ 640 by have := hw a ha; have := isWord_len (List.all_eq_true.mp e2 a ha); omega)]) (by omega)]
          simp [c, c2, hlt, mkT_of]
        · have : (3 : Int) < (ws.length : Int) := by omega
          simp [c, c2, this]
    · have : ¬ ((ns.length : Int) = 3) := by omega
      simp [c, this]
theorem forF_chk {α : Type} {body : D → Unit → M (Fl Unit)} {h : α → D} {p : α → Bool} {d : D} : ∀ {xs : List α}, (∀ a ∈ xs, body (h a) () = pure (if p a then .nx () else .rt d)) → forF body (xs.map h) () = pure (if xs.all p then .nx () else .rt d)
  | [], _ => rfl
  | a :: xs, hb => by
    rw [List.map_cons]
    unfold forF
    rw [hb a (by simp), pure_bind]
    cases c : p a
    · simp [c]
    · have ih := forF_chk (xs := xs) (fun b hb' => hb b (by simp [hb']))
      simp only [if_true, List.all_cons, c, Bool.true_and]
      exact ih
theorem low_dig (c : Nat) : decide (c ∈ tl ("abcdefghijklmnopqrstuvwxyz0123456789" : Str)) = (low c || dig c) := by
  have e : tl ("abcdefghijklmnopqrstuvwxyz0123456789" : Str) = tl ("abcdefghijklmnopqrstuvwxyz" : Str) ++ tl ("0123456789" : Str) := by decide +kernel
  rw [e]
  unfold low dig
  simp only [List.mem_append, Bool.decide_or]
@[simp] theorem flK_nx {τ α : Type} (k : τ → M α) (r : D → α) (t : τ) : flK k r (.nx t) = k t := rfl
@[simp] theorem flK_rt {τ α : Type} (k : τ → M α) (r : D → α) (d : D) : flK k r (.rt d) = pure (r d) := rfl
theorem idx_lst {xs : List D} {k : Int} {d : D} (h : L2.atI xs k = some d) : Op.idx (.lst xs) (.int k) = pure d := by
  funext s
  show (match Op.at0 (.lst xs) k with | some x => Res.ok x s | none => Res.bad) = Res.ok d s
  have : Op.at0 (.lst xs) k = some d := h
  rw [this]
theorem idx_tup {xs : List D} {k : Int} {d : D} (h : L2.atI xs k = some d) : Op.idx (.tup xs) (.int k) = pure d := by
  funext s
  show (match Op.at0 (.tup xs) k with | some x => Res.ok x s | none => Res.bad) = Res.ok d s
  have : Op.at0 (.tup xs) k = some d := h
  rw [this]
theorem slc_str {z : Str} {lo hi : Option Int} (h : z.length ≤ 16777216) : Op.slc (.str z) lo hi = pure (.str (L2.cutS z lo hi)) := by
  show (if Op.lenOk z.length then (pure (.str (L2.cutS z lo hi)) : M D) else M.bad) = _
  rw [lenOk_of h]; rfl
@[simp] theorem find_str (a b : Str) : Me.find (.str a) [.str b] = pure (.int (Txt.find a b)) := rfl
theorem law_parts {t : Str} (h : t.length ≤ 1000) : m__law_parts [.str t] = pure (partsD (cutN t) (cutW t)) := by
  have h1 := @head_len t
  have h2 := @tail_len t
  unfold m__law_parts
  simp only [pure_bind, isi_str, truthB_bl, Bool.not_true, Bool.false_eq_true, if_false, isStr_str, find_str, ltG_ii, add_ii, asInt_int]
  have hH : (if decide (Txt.find t dash < 0) = true then (pure (.str t) : M D) else Op.slc (.str t) none (some (Txt.find t dash))) = pure (.str (Txt.partition t dash).1) := by
    rcases find_part t with ⟨e, e2⟩ | ⟨i, hi, e, e2⟩
    · rw [e, e2]; rfl
    · rw [e, e2, if_neg (by simp), slc_str (by omega), cut_of (by omega)]
  have hW : (if decide (Txt.find t dash < 0) = true then (Op.mkL [] : M D) else (Op.slc (.str t) (some (Txt.find t dash + 1)) none >>= fun d => Me.isStr d >>= fun _ => Me.split d [.str dot])) = pure (.lst ((cutW t).map D.str)) := by
    unfold cutW
    rcases find_part t with ⟨e, e2⟩ | ⟨i, hi, e, e2⟩
    · rw [e, e2]; rfl
    · have e3 : (dash == ("" : Str)) = false := by decide
      have : ((i : Int) + 1) = ((i + 1 : Nat) : Int) := by omega
      rw [e, e2, if_neg (by simp), this, slc_str (by omega), cut_to (by omega), pure_bind]
      simp only [isStr_str, pure_bind, e3, Bool.false_eq_true, if_false]
      exact m_split (by have := sub_len t (i + 1) t.length; omega)
  rw [hH, hW]
  simp only [pure_bind, isStr_str]
  rw [m_split (by omega)]
  have hn : ∀ p ∈ cutN t, p.length ≤ 1000 := fun p hp => cutN_mem h hp
  have hw : ∀ p ∈ cutW t, p.length ≤ 1000 := fun p hp => by
    unfold cutW at hp
    split at hp
    · cases hp
    · have := split_mem hp; omega
  have ln : (cutN t).length ≤ 2000 := by have := split_n (Txt.partition t dash).1; unfold cutN; omega
  have lw : (cutW t).length ≤ 2000 := by
    unfold cutW
    split
    · simp
    · have := split_n (Txt.partition t dash).2.2; omega
  change ((pure (D.lst ((cutN t).map D.str)) : M D) >>= _) = _
  generalize cutN t = ns at *
  generalize cutW t = ws at *
  simp only [pure_bind, len_lst, ne_ii, truthB_bl, items_lst, gtG_ii, List.length_map]
  rw [comp_filtF (p := fun s => !isNum s 4) (fun a ha => by
    simp only [pure_bind, law_is_number (show a.length ≤ big by have := hn a ha; unfold big; omega), truthB_bl]
    cases isNum a 4 <;> rfl) (by omega)]
  simp only [pure_bind, mkL_nil]
  rw [nil_ne (by simp), filt_empty]
  simp only [pure_bind, truthB_bl]
  rw [forF_chk (p := isWord) (d := .non) (fun a ha => by
    have hb : a.length ≤ big := by have := hw a ha; unfold big; omega
    simp only [pure_bind, len_str hb, leG_ii, truthB_bl, items_str, law_is_digits hb, law_is_number hb]
    rw [comp_filtF (p := fun c => !(low c || dig c)) (fun c _ => by
      simp only [pure_bind, notIn_sg, truthB_bl, low_dig]
      cases (low c || dig c) <;> rfl) (by rw [tl_len]; exact hb)]
    simp only [pure_bind, mkL_nil]
    rw [nil_ne (by simp), filt_empty]
    simp only [pure_bind, truthB_bl]
    unfold isWord
    generalize decide ((1 : Int) ≤ (a.length : Int)) = b1
    generalize decide ((a.length : Int) ≤ 6) = b2
    generalize (tl a).all (fun c => low c || dig c) = b3
    generalize digs a = b4
    generalize isNum a 6 = b5
    cases b1 <;> cases b2 <;> cases b3 <;> cases b4 <;> cases b5 <;> rfl)]
  unfold partsD okP
  by_cases c : ns.length = 3
  · cases e1 : ns.all (isNum · 4)
    · simp [c]
    · by_cases c2 : ws.length ≤ 3
      · have hlt : ¬ (3 : Int) < (ws.length : Int) := by omega
        cases e2 : ws.all isWord
        · simp [c, c2, hlt]
        · obtain ⟨x, y, z, rfl⟩ : ∃ x y z, ns = [x, y, z] := by
            match ns, c with
            | [x, y, z], _ => exact ⟨x, y, z, rfl⟩
          simp only [List.all_cons, List.all_nil, Bool.and_true, Bool.and_eq_true] at e1
          have zx := isNum_digs e1.1
          have zy := isNum_digs e1.2.1
          have zz := isNum_digs e1.2.2
          rw [comp_mapF (g := wordD) (fun a ha => by
            have := isWord_len (List.all_eq_true.mp e2 a ha)
            simp only [pure_bind, law_is_digits (show a.length ≤ big by unfold big; omega), truthB_bl, if_true]
            unfold wordD
            cases e : digs a
            · rfl
            · simp only [if_true]; rw [int_str e (by omega)]; rfl) (by omega)]
          simp only [List.map_cons, List.map_nil, idx_lst (show L2.atI [D.str x, D.str y, D.str z] 0 = some (.str x) from rfl), idx_lst (show L2.atI [D.str x, D.str y, D.str z] 1 = some (.str y) from rfl), idx_lst (show L2.atI [D.str x, D.str y, D.str z] 2 = some (.str z) from rfl), pure_bind, int_str zx.1 (by omega), int_str zy.1 (by omega), int_str zz.1 (by omega)]
          simp [c2, hlt, mkT_of, e1]
      · have hlt : (3 : Int) < (ws.length : Int) := by omega
        simp [c, c2, hlt]
  · have : ¬ ((ns.length : Int) = 3) := by omega
    simp [c, this]
end Pl

set_option maxRecDepth 100000
set_option autoImplicit false
set_option maxHeartbeats 1000000
/-! PD32: part C: texts written and read back. -/
namespace Pl
open PySem DL TL Mi L2
@[simp] theorem exc_bind {α β : Type} (c : Str) (fs : List (Str × D)) (k : α → M β) : ((M.exc c fs : M α) >>= k) = M.exc c fs := rfl
@[simp] theorem nx_pure {α : Type} (a : α) : M.nx (pure a : M α) = pure a := rfl
abbrev S (n : Nat) : Str := Str.ofString (toString ((n : Nat) : Int))
theorem str_int {n : Nat} (h : n < 10 ^ 6) : Bi.str [.int (n : Int)] = pure (.str (S n)) := by
  show (if decide ((n : Int).natAbs.log2 < 1920) then (pure (.str (S n)) : M D) else M.bad) = _
  rw [if_pos]
  refine decide_eq_true ?_
  rw [Int.natAbs_natCast]
  have : n.log2 ≤ n := Nat.log2_le_self n
  by_cases c : n = 0
  · subst c; decide
  · have := (Nat.log2_lt c (k := 1920)).mpr (Nat.lt_of_lt_of_le h (by decide))
    exact this
@[simp] theorem str_str (x : Str) : Bi.str [.str x] = pure (.str x) := rfl
theorem S_len {n : Nat} (h : n < 10 ^ 6) : (S n).length ≤ 6 := by
  rw [len_tl, tl_num]
  exact numL_len (by decide) h
theorem join_strs {y : Str} {xs : List Str} (h : (xs.map (·.length)).sum + xs.length * y.length ≤ 16777216) : Me.join (.str y) [.lst (xs.map D.str)] = pure (.str (Str.join y xs)) := by
  show Bi.opt (Bi.strsOf (xs.map D.str)) _ = _
  rw [Bi.strs_map]
  show (if decide _ then (pure (.str (Txt.join y xs)) : M D) else M.bad) = _
  rw [if_pos (decide_eq_true h), join_eq]
theorem add_ss {x y : Str} (h : x.length + y.length ≤ 16777216) : Op.add (.str x) (.str y) = pure (.str (x ++ y)) := by
  show (if Op.lenOk (x.length + y.length) then (pure (.str (x ++ y)) : M D) else M.bad) = _
  rw [lenOk_of h]; rfl
/-- words: numbers and texts -/
inductive Wd where
  | n (k : Nat) | s (x : Str)
def Wd.d : Wd → D
  | .n k => .int (k : Int)
  | .s x => .str x
def Wd.t : Wd → Str
  | .n k => S k
  | .s x => x
def Wd.ok : Wd → Bool
  | .n k => decide (k < 10 ^ 6)
  | .s x => decide (x.length ≤ 6)
theorem Wd.len {w : Wd} (h : w.ok = true) : w.t.length ≤ 6 := by
  cases w with
  | n k => exact S_len (of_decide_eq_true h)
  | s x => exact of_decide_eq_true h
theorem Wd.str {w : Wd} (h : w.ok = true) : Bi.str [w.d] = pure (.str w.t) := by
  cases w with
  | n k => exact str_int (of_decide_eq_true h)
  | s x => rfl
def headT (a b c : Nat) : Str := Str.join dot [S a, S b, S c]
def textP (a b c : Nat) (ws : List Wd) : Str := if ws.isEmpty then headT a b c else headT a b c ++ dash ++ Str.join dot (ws.map Wd.t)
def vD (a b c : Nat) (ws : List Wd) : D := .tup [.int (a : Int), .int (b : Int), .int (c : Int), .tup (ws.map Wd.d)]
theorem join_len (y : Str) (xs : List Str) : (Str.join y xs).length ≤ (xs.map (·.length)).sum + xs.length * y.length := PySem.StrLaws.join_length_le y xs
theorem sum_le {xs : List Str} {m : Nat} (h : ∀ x ∈ xs, x.length ≤ m) : (xs.map (·.length)).sum ≤ xs.length * m := by
  induction xs with
  | nil => simp
  | cons x xs ih =>
    have := ih fun y hy => h y (by simp [hy])
    have := h x (by simp)
    simp only [List.map_cons, List.sum_cons, List.length_cons, Nat.succ_mul]
    omega
theorem dot_len : dot.length = 1 := by decide
theorem dash_len : dash.length = 1 := by decide
theorem head_le {a b c : Nat} (ha : a < 10 ^ 6) (hb : b < 10 ^ 6) (hc : c < 10 ^ 6) : (headT a b c).length ≤ 21 := by
  have h := join_len dot [S a, S b, S c]
  have := S_len ha
  have := S_len hb
  have := S_len hc
  unfold headT
  simp only [List.map_cons, List.map_nil, List.sum_cons, List.sum_nil, List.length_cons, List.length_nil, dot_len] at h
  omega
theorem words_le {ws : List Wd} (h : ∀ w ∈ ws, w.ok = true) (hl : ws.length ≤ 3) : (Str.join dot (ws.map Wd.t)).length ≤ 21 ∧ ((ws.map Wd.t).map (·.length)).sum + (ws.map Wd.t).length * dot.length ≤ 21 := by
  have j := join_len dot (ws.map Wd.t)
  have s := sum_le (xs := ws.map Wd.t) (m := 6) fun x hx => by
    obtain ⟨w, hw, rfl⟩ := List.mem_map.mp hx
    exact Wd.len (h w hw)
  rw [dot_len] at j ⊢
  rw [List.length_map] at *
  omega
theorem text_le {a b c : Nat} (ha : a < 10 ^ 6) (hb : b < 10 ^ 6) (hc : c < 10 ^ 6) {ws : List Wd} (h : ∀ w ∈ ws, w.ok = true) (hl : ws.length ≤ 3) : (textP a b c ws).length ≤ 50 := by
  have h1 := head_le ha hb hc
  have h2 := (words_le h hl).1
  unfold textP
  split
  · omega
  · rw [Str.length_append, Str.length_append, dash_len]; omega
theorem lay_ws {n : Nat} (ws : List Wd) : (ws.map Wd.d).all (D.lay n) = true := by
  simp only [List.all_eq_true, List.mem_map]
  rintro d ⟨w, _, rfl⟩
  cases w <;> simp [Wd.d]
@[simp] theorem mkT_nil : Op.mkT [] = pure (.tup []) := rfl
theorem eq_nilT (ws : List Wd) : Op.eq (.tup (ws.map Wd.d)) (.tup []) = pure (.bl ws.isEmpty) := by
  rw [eq_of (by rw [lay_tup]; exact lay_ws ws) (by simp)]
  cases ws <;> simp [D.eqb, D.eqbL]
theorem ne_nilT (ws : List Wd) : Op.ne (.tup (ws.map Wd.d)) (.tup []) = pure (.bl (!ws.isEmpty)) := by
  rw [DL.ne_of (by rw [lay_tup]; exact lay_ws ws) (by simp)]
  cases ws <;> simp [D.eqb, D.eqbL]
theorem slc3 (a b c d : D) : Op.slc (.tup [a, b, c, d]) none (some 3) = pure (.tup [a, b, c]) := rfl
theorem ix0 (a b c d : D) : Op.idx (.tup [a, b, c, d]) (.int 0) = pure a := idx_tup rfl
theorem ix1 (a b c d : D) : Op.idx (.tup [a, b, c, d]) (.int 1) = pure b := idx_tup rfl
theorem ix2 (a b c d : D) : Op.idx (.tup [a, b, c, d]) (.int 2) = pure c := idx_tup rfl
theorem ix3 (a b c d : D) : Op.idx (.tup [a, b, c, d]) (.int 3) = pure d := idx_tup rfl
theorem head_eq (a b c : Nat) : headT a b c = S a ++ dot ++ S b ++ dot ++ S c := by
  apply ext_tl
  show tl (S a ++ dot ++ (S b ++ dot ++ S c)) = _
  simp only [tl_append, List.append_assoc]
theorem law_text {a b c : Nat} (ha : a < 10 ^ 6) (hb : b < 10 ^ 6) (hc : c < 10 ^ 6) {ws : List Wd} (h : ∀ w ∈ ws, w.ok = true) (hl : ws.length ≤ 3) : m__law_text [vD a b c ws] = pure (.str (textP a b c ws)) := by
  have h1 := head_le ha hb hc
  have h2 := words_le h hl
  have e1 := S_len ha
  have e2 := S_len hb
  have e3 := S_len hc
  have dl : (Str.ofString ".").length = 1 := dot_len
  unfold m__law_text vD
  simp only [pure_bind, ix0, ix1, ix2, ix3, str_int ha, str_int hb, str_int hc, mkT_nil, eq_nilT, truthB_bl]
  rw [add_ss (by rw [dl]; omega), pure_bind, add_ss (by rw [Str.length_append, dl]; omega), pure_bind, add_ss (by rw [Str.length_append, Str.length_append, dl]; omega), pure_bind, add_ss (by rw [Str.length_append, Str.length_append, Str.length_append, dl]; omega), pure_bind]
  have hh : S a ++ Str.ofString "." ++ S b ++ Str.ofString "." ++ S c = headT a b c := (head_eq a b c).symm
  rw [hh]
  unfold textP
  cases e : ws.isEmpty
  · simp only [Bool.false_eq_true, if_false, isStr_str, pure_bind, items_tup]
    have hw : comp (fun x39 => Bi.str [x39] >>= fun y => pure (some y)) (ws.map Wd.d) = pure (.lst ((ws.map Wd.t).map D.str)) := by
      rw [comp_mapF (g := fun w => D.str w.t) (fun w hw => by rw [Wd.str (h w hw)]; rfl) (by omega), List.map_map]
      rfl
    rw [add_ss (by show (headT a b c).length + _ ≤ _; rw [dash_len]; omega)]
    simp only [pure_bind, if_true]
    rw [hw]
    simp only [pure_bind]
    rw [join_strs (Nat.le_trans h2.2 (by decide)), pure_bind]
    rw [add_ss (by rw [Str.length_append]; have z : (Str.join (Str.ofString ".") (ws.map Wd.t)).length ≤ 21 := h2.1; show (headT a b c).length + _ + _ ≤ _; rw [dash_len]; omega)]
  · rfl
/-! ### read back -/
def wmenu : List Wd := [.n 0, .n 1, .n 2, .n 5, .n 9, .n 10, .n 999999, .s "a", .s "b", .s "rc", .s "a1", .s "1a", .s "zz", .s "zzzzzz"]
theorem numL_head : ∀ (n : Nat), 0 < n → ∃ c r, numL n = c :: r ∧ c ≠ 48 := by
  intro n
  induction n using Nat.strongRecOn with
  | ind n ih =>
    intro hn
    by_cases h : n < 10
    · exact ⟨48 + n, [], numL_lt h, by omega⟩
    · obtain ⟨c, r, e, hc⟩ := ih (n / 10) (by omega) (by omega)
      exact ⟨c, r ++ [48 + n % 10], by rw [numL_step (by omega), e]; rfl, hc⟩
theorem dig_of {c : Nat} (h : 48 ≤ c ∧ c ≤ 57) : dig c = true := by
  have : c = 48 ∨ c = 49 ∨ c = 50 ∨ c = 51 ∨ c = 52 ∨ c = 53 ∨ c = 54 ∨ c = 55 ∨ c = 56 ∨ c = 57 := by omega
  rcases this with rfl | rfl | rfl | rfl | rfl | rfl | rfl | rfl | rfl | rfl <;> decide
theorem digs_S (n : Nat) : digs (S n) = true := by
  unfold digs
  rw [tl_num]
  have hne : (S n == ("" : Str)) = false := by
    rw [beq_eq_false_iff_ne]
    intro z
    have := congrArg tl z
    rw [tl_num] at this
    exact numL_ne n this
  rw [hne, Bool.not_false, Bool.true_and]
  exact List.all_eq_true.mpr fun c hc => dig_of (numL_digits n c hc)
theorem nums_ok : ∀ n ≤ 9999, isNum (S n) 4 = true := by
  intro n hn
  unfold isNum
  rw [digs_S, tl_num]
  have hl : (S n).length ≤ 4 := by rw [len_tl, tl_num]; exact numL_len (by omega) (by omega)
  rw [decide_eq_true (show ((S n).length : Int) ≤ 4 by omega)]
  simp only [Bool.true_and]
  by_cases h0 : n = 0
  · subst h0; decide
  · obtain ⟨c, r, e, hc⟩ := numL_head n (by omega)
    rw [e]
    have : (sg c == ("0" : Str)) = false := by
      rw [beq_eq_false_iff_ne]
      intro z
      have := congrArg tl z
      have e2 : tl (sg c) = [c] := rfl
      have e3 : tl ("0" : Str) = [48] := by decide
      rw [e2, e3] at this
      exact hc (by simpa using this)
    show (S n == ("0" : Str) || !(sg c == ("0" : Str))) = true
    rw [this]
    simp
theorem numD_S (n : Nat) : numD (S n) = .int (n : Int) := by
  unfold numD
  rw [tl_num, numL_val]
theorem wmenu_ok : ∀ w ∈ wmenu, w.ok = true ∧ isWord w.t = true ∧ 46 ∉ tl w.t := by decide +kernel
theorem wordD_menu : ∀ w ∈ wmenu, wordD w.t = w.d := by
  intro w hw
  simp only [wmenu, List.mem_cons, List.not_mem_nil, or_false] at hw
  rcases hw with rfl | rfl | rfl | rfl | rfl | rfl | rfl | rfl | rfl | rfl | rfl | rfl | rfl | rfl
  iterate 7
    · unfold wordD
      rw [if_pos (by decide +kernel)]
      exact numD_S _
  iterate 7
    · unfold wordD
      rw [if_neg (by decide +kernel)]
      rfl
theorem tl_dot : tl dot = [46] := by decide +kernel
theorem tl_dash : tl dash = [45] := by decide +kernel
theorem head_free (a b c : Nat) : 45 ∉ tl (headT a b c) := by
  rw [head_eq]
  simp only [tl_append, List.mem_append, tl_num, tl_dot]
  have := fun n => numL_free (n := n) (s := 45) (by omega)
  simp [this]
theorem split_head (a b c : Nat) : Txt.split (headT a b c) dot = [S a, S b, S c] := by
  have := split_join (y := dot) tl_dot (by decide +kernel) (parts := [S a, S b, S c]) (by simp) (fun p hp => by
    have k := fun n => numL_free (n := n) (s := 46) (by omega)
    simp only [List.mem_cons, List.not_mem_nil, or_false] at hp
    rcases hp with rfl | rfl | rfl <;> rw [tl_num] <;> exact k _)
  rw [join_eq] at this
  exact this
theorem cut_text {a b c : Nat} {ws : List Wd} (h : ∀ w ∈ ws, 46 ∉ tl w.t) : cutN (textP a b c ws) = [S a, S b, S c] ∧ cutW (textP a b c ws) = ws.map Wd.t := by
  unfold cutN cutW textP
  cases e : ws.isEmpty
  · simp only [Bool.false_eq_true, if_false]
    rw [partition_app tl_dash (head_free a b c)]
    have e2 : (dash == ("" : Str)) = false := by decide
    simp only [e2, Bool.false_eq_true, if_false]
    refine ⟨split_head a b c, ?_⟩
    have := split_join (y := dot) tl_dot (by decide +kernel) (parts := ws.map Wd.t) (by intro z; rw [List.map_eq_nil_iff.mp z] at e; cases e) (fun p hp => by
      obtain ⟨w, hw, rfl⟩ := List.mem_map.mp hp
      exact h w hw)
    rw [join_eq] at this
    exact this
  · simp only [if_true]
    rw [partition_none tl_dash (head_free a b c)]
    have e3 : ws = [] := List.isEmpty_iff.mp e
    subst e3
    exact ⟨split_head a b c, rfl⟩
/-- a good version -/
structure Good (a b c : Nat) (ws : List Wd) : Prop where
  ha : a ≤ 9999
  hb : b ≤ 9999
  hc : c ≤ 9999
  hw : ∀ w ∈ ws, w ∈ wmenu
  hl : ws.length ≤ 3
theorem Good.read {a b c : Nat} {ws : List Wd} (g : Good a b c ws) : partsD (cutN (textP a b c ws)) (cutW (textP a b c ws)) = vD a b c ws := by
  obtain ⟨e1, e2⟩ := cut_text (a := a) (b := b) (c := c) fun w hw => (wmenu_ok w (g.hw w hw)).2.2
  rw [e1, e2]
  unfold partsD
  rw [if_pos]
  · unfold vD
    simp only [List.map_cons, List.map_nil, numD_S, List.map_map, List.cons_append, List.nil_append]
    have : ws.map (wordD ∘ Wd.t) = ws.map Wd.d := List.map_congr_left fun w hw => wordD_menu w (g.hw w hw)
    rw [this]
  · unfold okP
    have hl := g.hl
    simp only [List.length_cons, List.length_nil, List.all_cons, List.all_nil, nums_ok a g.ha, nums_ok b g.hb, nums_ok c g.hc, List.length_map, decide_true, Bool.and_true, Bool.true_and, Bool.and_eq_true, decide_eq_true_eq, hl, true_and, List.all_eq_true]
    rintro x hx
    obtain ⟨w, hw, rfl⟩ := List.mem_map.mp hx
    exact (wmenu_ok w (g.hw w hw)).2.1
theorem Good.lt {a b c : Nat} {ws : List Wd} (g : Good a b c ws) : a < 10 ^ 6 ∧ b < 10 ^ 6 ∧ c < 10 ^ 6 ∧ (∀ w ∈ ws, w.ok = true) := by
  have := g.ha
  have := g.hb
  have := g.hc
  exact ⟨by omega, by omega, by omega, fun w hw => (wmenu_ok w (g.hw w hw)).1⟩
theorem Good.le {a b c : Nat} {ws : List Wd} (g : Good a b c ws) : (textP a b c ws).length ≤ 50 := text_le g.lt.1 g.lt.2.1 g.lt.2.2.1 g.lt.2.2.2 g.hl
theorem Good.in_ {a b c : Nat} {ws : List Wd} (g : Good a b c ws) : m_parts_in [.str (textP a b c ws)] = pure (vD a b c ws) := by
  rw [parts_in (by have := g.le; omega), g.read]
theorem Good.law {a b c : Nat} {ws : List Wd} (g : Good a b c ws) : m__law_parts [.str (textP a b c ws)] = pure (vD a b c ws) := by
  rw [law_parts (by have := g.le; omega), g.read]
end Pl

set_option maxRecDepth 100000
set_option autoImplicit false
set_option maxHeartbeats 1000000
/-! PG33: isinstance, what is said, small words. -/
namespace Pl
open PySem DL TL Mi L2
@[simp] theorem isiI (T : String) (i : Int) : Bi.isi T (.int i) = pure (.bl (isiTab "int" T)) := rfl
@[simp] theorem isiB (T : String) (i : Bool) : Bi.isi T (.bl i) = pure (.bl (isiTab "bool" T)) := rfl
@[simp] theorem isiS (T : String) (i : Str) : Bi.isi T (.str i) = pure (.bl (isiTab "str" T)) := rfl
@[simp] theorem isiN (T : String) : Bi.isi T .non = pure (.bl (isiTab "NoneType" T)) := rfl
@[simp] theorem isiL (T : String) (xs : List D) : Bi.isi T (.lst xs) = pure (.bl (isiTab "list" T)) := rfl
@[simp] theorem isiT (T : String) (xs : List D) : Bi.isi T (.tup xs) = pure (.bl (isiTab "tuple" T)) := rfl
@[simp] theorem isiD (T : String) (xs : List (D × D)) : Bi.isi T (.dct xs) = pure (.bl (isiTab "dict" T)) := rfl
theorem tryM_pure {α : Type} (kn : List Str) (cl : List (Str × (List (Str × D) → M α))) (a : α) : tryM kn cl (pure a) = pure a := rfl
theorem tryM_exc {α : Type} {kn : List Str} {cl : List (Str × (List (Str × D) → M α))} {c : Str} {fs : List (Str × D)} (h : kn.contains c = true) : tryM kn cl (M.exc c fs) = pickM c fs cl := by
  funext s
  show (if kn.contains c then pickM c fs cl s else Res.bad) = _
  rw [if_pos h]
abbrev told (v : D) : D := .lst [.str ("told" : Str), v]
abbrev badv (v : D) : D := .lst [.str ("version" : Str), v]
abbrev badt (v : D) : D := .lst [.str ("versions" : Str), v]
abbrev badr (v : D) : D := .lst [.str ("range" : Str), v]
abbrev iv (d : D) : M D := M.exc ("InvalidVersion" : Str) [(("given" : Str), d)]
abbrev it (d : D) : M D := M.exc ("InvalidVersions" : Str) [(("given" : Str), d)]
abbrev ir (d : D) : M D := M.exc ("InvalidRange" : Str) [(("given" : Str), d)]
theorem mk2 (x y : D) : Op.mkL [x, y] = pure (.lst [x, y]) := rfl
/-- what the clauses make of an answer; s: the cells, kept -/
inductive Ans (s : Sto) : M D → D → Prop
  | ok {m : M D} (v : D) (h : m s = .ok v s) : Ans s m (told v)
  | iv {m : M D} (d : D) (h : m s = .ex ("InvalidVersion" : Str) [(("given" : Str), d)] s) : Ans s m (badv d)
  | it {m : M D} (d : D) (h : m s = .ex ("InvalidVersions" : Str) [(("given" : Str), d)] s) : Ans s m (badt d)
  | ir {m : M D} (d : D) (h : m s = .ex ("InvalidRange" : Str) [(("given" : Str), d)] s) : Ans s m (badr d)
theorem said_gen {cl : List (Str × (List (Str × D) → M (Fl Unit)))} {k : Unit → M D} {s : Sto} {X : M D} {v : D} {I : M (Fl Unit)} (h : I = X >>= fun v => pure (Fl.rt (told v))) (a : Ans s X v)
    (c1 : ∀ d, pickM ("InvalidVersion" : Str) [(("given" : Str), d)] cl = pure (Fl.rt (badv d))) (c2 : ∀ d, pickM ("InvalidVersions" : Str) [(("given" : Str), d)] cl = pure (Fl.rt (badt d))) (c3 : ∀ d, pickM ("InvalidRange" : Str) [(("given" : Str), d)] cl = pure (Fl.rt (badr d))) : (tryM exKnown cl I >>= flK k (fun d => d)) s = .ok v s := by
  rw [h]
  have e : ∀ r, (X >>= fun v => (pure (Fl.rt (told v)) : M (Fl Unit))) s = r → (tryM exKnown cl (X >>= fun v => pure (Fl.rt (told v)))) s = (match r with
    | .ex c d s => if exKnown.contains c then pickM c d cl s else .bad
    | r => r) := by
    intro r hr
    unfold tryM
    rw [hr]
    cases r <;> rfl
  have fin : ∀ w, (tryM exKnown cl (X >>= fun v => pure (Fl.rt (told v)))) s = .ok (Fl.rt w) s → (tryM exKnown cl (X >>= fun v => pure (Fl.rt (told v))) >>= flK k (fun d => d)) s = .ok w s := by
    intro w hw
    show M.bnd _ _ s = _
    unfold M.bnd
    rw [hw]
    rfl
  have exc : ∀ c d w, X s = .ex c d s → exKnown.contains c = true → pickM c d cl = pure (Fl.rt w) → (tryM exKnown cl (X >>= fun v => pure (Fl.rt (told v))) >>= flK k (fun d => d)) s = .ok w s := by
    intro c d w hm hc hp
    refine fin _ ?_
    rw [e (.ex c d s) (by show M.bnd _ _ s = _; unfold M.bnd; rw [hm])]
    show (if exKnown.contains c = true then _ else _) = _
    rw [if_pos hc, hp]
    rfl
  cases a with
  | ok v hm =>
    refine fin _ ?_
    rw [e (.ok (Fl.rt (told v)) s) (by show M.bnd _ _ s = _; unfold M.bnd; rw [hm]; rfl)]
  | iv d hm => exact exc _ _ _ hm (by decide) (c1 d)
  | it d hm => exact exc _ _ _ hm (by decide) (c2 d)
  | ir d hm => exact exc _ _ _ hm (by decide) (c3 d)
theorem said01 {s : Sto} {v one text : D} {w : Int} (hw : w = 0 ∨ w = 1) (a : Ans s (m_in_range [one, text]) v) : m__law_said [.int w, one, text] s = .ok v s := by
  unfold m__law_said
  refine said_gen (X := m_in_range [one, text]) ?_ a (fun _ => rfl) (fun _ => rfl) (fun _ => rfl)
  rcases hw with rfl | rfl <;> simp [mk2, kwRev]
theorem said23 {s : Sto} {v one text : D} {w : Int} (hw : w = 2 ∨ w = 3) (a : Ans s (m_best_in [one, text]) v) : m__law_said [.int w, one, text] s = .ok v s := by
  unfold m__law_said
  refine said_gen (X := m_best_in [one, text]) ?_ a (fun _ => rfl) (fun _ => rfl) (fun _ => rfl)
  rcases hw with rfl | rfl <;> simp [mk2, kwRev]
theorem parts_of_no {d : D} (h : m_parts_in [d] = pure .non) : m_parts_of [d] = iv d := by
  unfold m_parts_of
  simp only [pure_bind, h]
  rfl
theorem parts_of_yes {d v : D} (h : m_parts_in [d] = pure v) (n : Op.isNon v = false) : m_parts_of [d] = pure v := by
  unfold m_parts_of
  simp only [pure_bind, h, n, Bool.false_eq_true, if_false]
end Pl

set_option maxRecDepth 100000
set_option autoImplicit false
set_option maxHeartbeats 1000000
/-! PH32: part G: the same. -/
namespace Pl
open PySem DL TL Mi L2
def nice : Nat → D → Bool
  | _, .non => true
  | _, .bl _ => true
  | _, .int _ => true
  | _, .str x => decide (x.length ≤ 1000)
  | _, .dct [] => true
  | n + 1, .lst xs => decide (xs.length ≤ 1000) && xs.all (nice n)
  | n + 1, .tup xs => decide (xs.length ≤ 1000) && xs.all (nice n)
  | _, _ => false
theorem rng_n {n : Nat} (h : n ≤ 1000) : rng1 [.int (n : Int)] = pure ((List.range n).map fun i => D.int (0 + (i : Nat))) := by
  show (if rangeOk (n : Int) then (pure ((List.range (n : Int).toNat).map fun i => D.int (0 + (i : Nat))) : M (List D)) else M.bad) = _
  rw [if_pos]
  · rfl
  · exact decide_eq_true (by omega)
theorem none_left {α : Type} {f : D → M (Option D)} {h : α → D} {xs : List α} (hf : ∀ a ∈ xs, f (h a) = pure none) (hl : xs.length ≤ 16777216) : comp f (xs.map h) = pure (.lst []) := by
  rw [comp_filtF (p := fun _ => false) (fun a ha => by rw [hf a ha]; rfl) hl, List.filter_eq_nil_iff.mpr (fun a _ => Bool.false_ne_true)]
  rfl
theorem eq_nil0 : Op.eq (.lst []) (.lst []) = pure (.bl true) := by rw [eq_of (by simp) (by simp)]; rfl
theorem char_eq {x : Str} (h : x.length ≤ 1000) {i : Nat} (hi : i < x.length) : ∃ c, Op.idx (.str x) (.int (0 + (i : Int))) = pure (.str (sg c)) ∧ Op.slc (.str x) (some (0 + (i : Int))) (some (0 + (i : Int) + 1)) = pure (.str (sg c)) := by
  have hl : (tl x).length = x.length := tl_len x
  have hg : (tl x)[i]? = some (tl x)[i] := List.getElem?_eq_getElem (by omega)
  refine ⟨(tl x)[i], ?_, ?_⟩
  · funext s
    show (match Op.at0 (.str x) (0 + (i : Int)) with | some y => Res.ok y s | none => Res.bad) = _
    have : Op.at0 (.str x) (0 + (i : Int)) = some (.str (sg (tl x)[i])) := by
      show (if Op.lenOk x.length then (L2.atI (tl x) (0 + (i : Int))).map (fun c => D.str ⟨#[c]⟩) else none) = _
      rw [lenOk_of (by omega)]
      unfold L2.atI L2.ixN
      rw [hl]
      have e1 : (0 : Int) ≤ 0 + (i : Int) := by omega
      have e2 : (0 : Int) + (i : Int) < (x.length : Int) := by omega
      have e3 : ((0 : Int) + (i : Int)).toNat = i := by omega
      simp only [e1, e2, e3, if_true]
      simp only [Option.bind_some, hg, Option.map_some]
    rw [this]
    rfl
  · rw [slc_str (by omega)]
    congr 2
    apply ext_tl
    show ((tl x).drop (HT.sIx x.length 0 (some (0 + (i : Int))))).take (HT.sIx x.length x.length (some (0 + (i : Int) + 1)) - HT.sIx x.length 0 (some (0 + (i : Int)))) = [(tl x)[i]]
    have e1 : (0 : Int) + (i : Int) = ((i : Nat) : Int) := by omega
    have e2 : (0 : Int) + (i : Int) + 1 = ((i + 1 : Nat) : Int) := by omega
    rw [e2, e1, HT.sIx_nat, HT.sIx_nat, Nat.min_eq_left (by omega), Nat.min_eq_left (by omega), Nat.add_sub_cancel_left, List.drop_eq_getElem_cons (by omega)]
    rfl
theorem at_range {xs : List D} {i : Nat} (hi : i < xs.length) : L2.atI xs (0 + (i : Int)) = some xs[i] := by
  unfold L2.atI L2.ixN
  have e1 : (0 : Int) ≤ 0 + (i : Int) := by omega
  have e2 : (0 : Int) + (i : Int) < (xs.length : Int) := by omega
  have e3 : ((0 : Int) + (i : Int)).toNat = i := by omega
  simp only [e1, e2, e3, if_true, Option.bind_some]
  exact List.getElem?_eq_getElem hi
@[simp] theorem isNon_non : Op.isNon .non = true := rfl
@[simp] theorem isNon_bl (b : Bool) : Op.isNon (.bl b) = false := rfl
@[simp] theorem isNon_int (b : Int) : Op.isNon (.int b) = false := rfl
@[simp] theorem isNon_str (b : Str) : Op.isNon (.str b) = false := rfl
@[simp] theorem isNon_lst (b : List D) : Op.isNon (.lst b) = false := rfl
@[simp] theorem isNon_tup (b : List D) : Op.isNon (.tup b) = false := rfl
@[simp] theorem isNon_dct (b : List (D × D)) : Op.isNon (.dct b) = false := rfl
@[simp] theorem isBl_bb (a b : Bool) : Op.isBl (.bl a) (.bl b) = pure (.bl (decide (a = b))) := rfl
@[simp] theorem int_int (i : Int) : Bi.int [.int i] = pure (.int i) := rfl
theorem same_refl : ∀ (n : Nat) (d : D), nice n d = true → m__law_same (n + 1) [d, d] = pure (.bl true) := by
  intro n d h
  induction n generalizing d with
  | zero =>
    cases d with
    | non => unfold m__law_same; simp [isiTab]
    | bl b => unfold m__law_same; simp [isiTab]
    | int i => unfold m__law_same; simp [isiTab]
    | str x =>
      have hx : x.length ≤ 1000 := of_decide_eq_true h
      unfold m__law_same
      simp only [pure_bind, isNon_str, isiS, show isiTab "str" "bool" = false from by decide, show isiTab "str" "int" = false from by decide, show isiTab "str" "str" = true from by decide, truthB_bl, Bool.false_eq_true, if_false, if_true, len_str (show x.length ≤ 16777216 by omega), eq_ii, beq_self_eq_true, rng_n hx]
      rw [none_left (fun i hi => by
        obtain ⟨c, h1, h2⟩ := char_eq hx (List.mem_range.mp hi)
        simp only [pure_bind, add_ii, asInt_int, h1, h2, ne_ss, beq_self_eq_true, Bool.not_true, truthB_bl, Bool.false_eq_true, if_false]) (by rw [List.length_range]; omega)]
      simp only [pure_bind, mkL_nil, eq_nil0]
    | dct es =>
      cases es with
      | nil => unfold m__law_same; simp [isiTab, rng1, comp, compM, finL, Op.lenOk, eq_nil0]; rfl
      | cons e es => unfold nice at h; cases h
    | lst xs => unfold nice at h; cases h
    | tup xs => unfold nice at h; cases h
    | set xs => unfold nice at h; cases h
    | obj c xs => unfold nice at h; cases h
    | ref k => unfold nice at h; cases h
  | succ n ih =>
    cases d with
    | non => unfold m__law_same; simp [isiTab]
    | bl b => unfold m__law_same; simp [isiTab]
    | int i => unfold m__law_same; simp [isiTab]
    | str x =>
      have hx : x.length ≤ 1000 := of_decide_eq_true h
      unfold m__law_same
      simp only [pure_bind, isNon_str, isiS, show isiTab "str" "bool" = false from by decide, show isiTab "str" "int" = false from by decide, show isiTab "str" "str" = true from by decide, truthB_bl, Bool.false_eq_true, if_false, if_true, len_str (show x.length ≤ 16777216 by omega), eq_ii, beq_self_eq_true, rng_n hx]
      rw [none_left (fun i hi => by
        obtain ⟨c, h1, h2⟩ := char_eq hx (List.mem_range.mp hi)
        simp only [pure_bind, add_ii, asInt_int, h1, h2, ne_ss, beq_self_eq_true, Bool.not_true, truthB_bl, Bool.false_eq_true, if_false]) (by rw [List.length_range]; omega)]
      simp only [pure_bind, mkL_nil, eq_nil0]
    | dct es =>
      cases es with
      | nil => unfold m__law_same; simp [isiTab, rng1, comp, compM, finL, Op.lenOk, eq_nil0]; rfl
      | cons e es => unfold nice at h; cases h
    | lst xs =>
      unfold nice at h
      simp only [Bool.and_eq_true, decide_eq_true_eq, List.all_eq_true] at h
      unfold m__law_same
      simp only [pure_bind, isNon_lst, isiL, show isiTab "list" "bool" = false from by decide, show isiTab "list" "int" = false from by decide, show isiTab "list" "str" = false from by decide, show isiTab "list" "list" = true from by decide, show isiTab "list" "tuple" = false from by decide, truthB_bl, Bool.false_eq_true, if_false, if_true, ne_bb, beq_self_eq_true, Bool.not_true, len_lst, eq_ii, rng_n h.1]
      rw [none_left (fun i hi => by
        have hi' := List.mem_range.mp hi
        simp only [pure_bind, idx_lst (at_range hi'), ih _ (h.2 _ (List.getElem_mem hi')), truthB_bl, Bool.not_true, Bool.false_eq_true, if_false]) (by rw [List.length_range]; omega)]
      simp only [pure_bind, mkL_nil, eq_nil0]
    | tup xs =>
      unfold nice at h
      simp only [Bool.and_eq_true, decide_eq_true_eq, List.all_eq_true] at h
      unfold m__law_same
      simp only [pure_bind, isNon_tup, isiT, show isiTab "tuple" "bool" = false from by decide, show isiTab "tuple" "int" = false from by decide, show isiTab "tuple" "str" = false from by decide, show isiTab "tuple" "list" = false from by decide, show isiTab "tuple" "tuple" = true from by decide, truthB_bl, Bool.false_eq_true, if_false, if_true, ne_bb, beq_self_eq_true, Bool.not_true, len_tup, eq_ii, rng_n h.1]
      rw [none_left (fun i hi => by
        have hi' := List.mem_range.mp hi
        simp only [pure_bind, idx_tup (at_range hi'), ih _ (h.2 _ (List.getElem_mem hi')), truthB_bl, Bool.not_true, Bool.false_eq_true, if_false]) (by rw [List.length_range]; omega)]
      simp only [pure_bind, mkL_nil, eq_nil0]
    | set xs => unfold nice at h; cases h
    | obj c xs => unfold nice at h; cases h
    | ref k => unfold nice at h; cases h
end Pl

set_option maxRecDepth 100000
set_option autoImplicit false
set_option maxHeartbeats 1000000
/-! PI32: part H: boxes. -/
namespace Pl
open PySem DL TL Mi L2
theorem bind_ok {α β : Type} {m : M α} {k : α → M β} {s s' : Sto} {a : α} (h : m s = .ok a s') : (m >>= k) s = k a s' := by
  show M.bnd m k s = _
  unfold M.bnd
  rw [h]
theorem idx_cell {s : Sto} {n : Nat} {ds : List D} {k : Int} {x : D} (h : s[n]? = some (.lst ds)) (e : L2.atI ds k = some x) : Op.idx (.ref n) (.int k) s = .ok x s := by
  show (match s[n]? with | some c => (match Op.at0 c k with | some x => Res.ok x s | none => Res.bad) | none => Res.bad) = _
  rw [h]
  have : Op.at0 (.lst ds) k = some x := e
  simp only [this]
theorem set_cell {s : Sto} {n : Nat} {ds : List D} {k : Int} {j : Nat} {v : D} (h : s[n]? = some (.lst ds)) (e : L2.ixN ds.length k = some j) : Op.setIx (.ref n) (.int k) v s = .ok () (s.set n (.lst (ds.set j v))) := by
  show (match s[n]? with | some (.lst ds) => (match L2.ixN ds.length k with | some j => Res.ok () (s.set n (.lst (ds.set j v))) | none => Res.bad) | _ => Res.bad) = _
  rw [h]
  simp only [e]
/-- the box at n: N takes at most were there -/
abbrev tabN : Str := (("best_in" : String) : Str)
theorem tab_set {s : Sto} {n : Nat} {d e : D} (h : s[n]? = some d) (hd : isTab tabN d = false) (ht : s.any (isTab tabN) = true) : (s.set n e).any (isTab tabN) = true := by
  obtain ⟨z, hz, tz⟩ := List.any_eq_true.mp ht
  obtain ⟨i, hi⟩ := List.getElem?_of_mem hz
  have ne : n ≠ i := fun q => by
    subst q
    rw [h] at hi
    cases hi
    rw [hd] at tz
    cases tz
  exact List.any_eq_true.mpr ⟨z, List.mem_of_getElem? (i := i) (by rw [List.getElem?_set_ne ne]; exact hi), tz⟩
structure Box (n N : Nat) (s : Sto) : Prop where
  ex : ∃ (g r k : Int) (b : Bool), s[n]? = some (.lst [.int g, .bl b, .int r, .int k]) ∧ 0 ≤ g ∧ 0 ≤ r ∧ r < 2147483629 ∧ 0 ≤ k ∧ k ≤ N ∧ s.any (isTab tabN) = true
theorem set_get {s : Sto} {n : Nat} {d e : D} (h : s[n]? = some d) : (s.set n e)[n]? = some e := List.getElem?_set_self (List.getElem?_eq_some_iff.mp h).1
theorem mod_ok {x m : Int} (h : 0 < m) : Op.mod (.int x) (.int m) = pure (.int (x % m)) := by
  show (if decide (0 < m) then (pure (.int (x % m)) : M D) else M.bad) = _
  rw [if_pos (decide_eq_true h)]
theorem fdiv_ok {x m : Int} (h : 0 < m) (h2 : m < 1073741824) : Op.fdiv (.int x) (.int m) = pure (.int (x / m)) := by
  show (if decide (0 < m ∧ m < 1073741824) then (pure (.int (x / m)) : M D) else M.bad) = _
  rw [if_pos (decide_eq_true ⟨h, h2⟩)]
theorem pow_ok {x : Int} {j : Nat} (h0 : 0 ≤ x) (h : x < 18446744073709551616) (hj : j ≤ 1000000) : Op.pow (.int x) (.int (j : Int)) = pure (.int (x ^ j)) := by
  show (if decide (0 ≤ (j : Int) ∧ (j : Int) ≤ 1000000 ∧ x.natAbs < 2 ^ 64) then (pure (.int (x ^ (j : Int).toNat)) : M D) else M.bad) = _
  rw [if_pos (decide_eq_true ⟨by omega, by omega, by omega⟩)]
  rfl
theorem mulL {i j : Int} (h : -18446744073709551616 < i ∧ i < 18446744073709551616) : Op.mul (.int i) (.int j) = pure (.int (i * j)) := by
  show (if Op.mulOk i j then (pure (.int (i * j)) : M D) else M.bad) = _
  rw [if_pos]
  unfold Op.mulOk
  rw [Bool.or_eq_true]
  exact .inl (decide_eq_true h)
theorem mulR {i j : Int} (h : -18446744073709551616 < j ∧ j < 18446744073709551616) : Op.mul (.int i) (.int j) = pure (.int (i * j)) := by
  show (if Op.mulOk i j then (pure (.int (i * j)) : M D) else M.bad) = _
  rw [if_pos]
  unfold Op.mulOk
  rw [Bool.or_eq_true]
  exact .inr (decide_eq_true h)
theorem take {n N : Nat} {s : Sto} {many : Int} (hb : Box n N s) (hm : 0 < many ∧ many < 1073741824) (hN : N ≤ 1000000) : ∃ (i : Nat) (s' : Sto), m__law_take [.ref n, .int many] s = .ok (.int (i : Int)) s' ∧ (i : Int) < many ∧ Box n (N + 1) s' := by
  obtain ⟨g, r, k, b, hs, hg, hr, hr2, hk, hk2, ht⟩ := hb.ex
  have fast : (b = true ∧ 0 < g) ∨ ¬ (b = true ∧ 0 < g) := Classical.em _
  unfold m__law_take
  simp only [pure_bind, bind_assoc]
  rw [bind_ok (idx_cell hs (show L2.atI _ 1 = some (.bl b) from rfl))]
  simp only [truthB_bl, pure_bind]
  -- the slow way
  have slow : ∀ (X : M D), (∃ (i : Nat) (s' : Sto), (Op.idx (.ref n) (.int 3) >>= fun x => Op.add x (.int 1) >>= fun x => Op.setIx (.ref n) (.int 3) x >>= fun _ => Op.idx (.ref n) (.int 2) >>= fun x => Op.idx (.ref n) (.int 3) >>= fun y => Op.mul (.int 15485863) y >>= fun y => Op.add x y >>= fun x => Op.add x (.int 179424673) >>= fun x => Op.pow x (.int 5) >>= fun x => Bi.int [x] >>= fun x => Op.mod x (.int 2147483647) >>= fun x => Op.mul x (.int 48271) >>= fun x => Op.idx (.ref n) (.int 3) >>= fun y => Op.mul (.int 104729) y >>= fun y => Op.add x y >>= fun x => Op.pow x (.int 3) >>= fun x => Bi.int [x] >>= fun x => Op.mod x (.int 2147483587) >>= fun x => Op.fdiv x (.int 64) >>= fun x => Bi.int [x] >>= fun x => Op.mod x (.int many)) s = .ok (.int (i : Int)) s' ∧ (i : Int) < many ∧ Box n (N + 1) s') := by
    intro _
    rw [bind_ok (idx_cell hs (show L2.atI _ 3 = some (.int k) from rfl))]
    simp only [add_ii, pure_bind]
    rw [bind_ok (set_cell hs (show L2.ixN _ 3 = some 3 from rfl))]
    have hs2 := set_get (e := .lst [.int g, .bl b, .int r, .int (k + 1)]) hs
    change ∃ (i : Nat) (s' : Sto), (_ : M D) (s.set n (.lst [.int g, .bl b, .int r, .int (k + 1)])) = _ ∧ _
    have hB : Box n (N + 1) (s.set n (.lst [.int g, .bl b, .int r, .int (k + 1)])) := ⟨g, r, k + 1, b, hs2, hg, hr, hr2, by omega, by omega, tab_set hs rfl ht⟩
    generalize s.set n (.lst [.int g, .bl b, .int r, .int (k + 1)]) = s2 at hs2 hB
    rw [bind_ok (idx_cell hs2 (show L2.atI _ 2 = some (.int r) from rfl))]
    rw [bind_ok (idx_cell hs2 (show L2.atI _ 3 = some (.int (k + 1)) from rfl))]
    rw [mulL (by omega)]
    simp only [add_ii, pure_bind]
    rw [show Op.pow (.int (r + 15485863 * (k + 1) + 179424673)) (.int 5) = _ from pow_ok (j := 5) (by omega) (by omega) (by omega)]
    simp only [pure_bind, int_int]
    rw [mod_ok (by omega)]
    simp only [pure_bind]
    have m0 : 0 ≤ (r + 15485863 * (k + 1) + 179424673) ^ 5 % 2147483647 := Int.emod_nonneg _ (by omega)
    have m1 : (r + 15485863 * (k + 1) + 179424673) ^ 5 % 2147483647 < 2147483647 := Int.emod_lt_of_pos _ (by omega)
    generalize (r + 15485863 * (k + 1) + 179424673) ^ 5 % 2147483647 = mm at m0 m1
    rw [mulR (by omega)]
    simp only [pure_bind]
    rw [bind_ok (idx_cell hs2 (show L2.atI _ 3 = some (.int (k + 1)) from rfl))]
    rw [mulL (by omega)]
    simp only [add_ii, pure_bind]
    rw [show Op.pow (.int (mm * 48271 + 104729 * (k + 1))) (.int 3) = _ from pow_ok (j := 3) (by omega) (by omega) (by omega)]
    simp only [pure_bind, int_int]
    rw [mod_ok (by omega)]
    simp only [pure_bind]
    rw [fdiv_ok (by omega) (by omega)]
    simp only [pure_bind, int_int]
    rw [mod_ok hm.1]
    refine ⟨((mm * 48271 + 104729 * (k + 1)) ^ 3 % 2147483587 / 64 % many).toNat, s2, ?_, ?_, hB⟩
    · rw [Int.toNat_of_nonneg (Int.emod_nonneg _ (by omega))]; rfl
    · rw [Int.toNat_of_nonneg (Int.emod_nonneg _ (by omega))]; exact Int.emod_lt_of_pos _ hm.1
  cases b with
  | false =>
    simp only [Bool.false_eq_true, if_false, pure_bind]
    exact slow M.bad
  | true =>
    simp only [if_true, bind_assoc]
    rw [bind_ok (idx_cell hs (show L2.atI _ 0 = some (.int g) from rfl))]
    simp only [gtG_ii, truthB_bl, pure_bind]
    by_cases c : 0 < g
    · simp only [c, decide_true, if_true]
      rw [bind_ok (idx_cell hs (show L2.atI _ 0 = some (.int g) from rfl))]
      simp only [int_int, pure_bind]
      rw [mod_ok hm.1, pure_bind]
      rw [bind_ok (idx_cell hs (show L2.atI _ 0 = some (.int g) from rfl))]
      rw [fdiv_ok hm.1 hm.2, pure_bind]
      rw [bind_ok (set_cell hs (show L2.ixN _ 0 = some 0 from rfl))]
      refine ⟨(g % many).toNat, _, by rw [Int.toNat_of_nonneg (Int.emod_nonneg _ (by omega))]; rfl, ?_, ⟨g / many, r, k, true, set_get hs, ?_, hr, hr2, hk, by omega, tab_set hs rfl ht⟩⟩
      · rw [Int.toNat_of_nonneg (Int.emod_nonneg _ (by omega))]; exact Int.emod_lt_of_pos _ hm.1
      · exact Int.ediv_nonneg hg (by omega)
    · simp only [c, decide_false, Bool.false_eq_true, if_false]
      exact slow M.bad
end Pl

set_option maxRecDepth 100000
set_option autoImplicit false
set_option maxHeartbeats 1000000
/-! PJ32: part I: what is drawn. -/
namespace Pl
open PySem DL TL Mi L2
theorem Box.mono {n N M : Nat} {s : Sto} (h : Box n N s) (l : N ≤ M) : Box n M s :=
  let ⟨g, r, k, b, h1, h2, h3, h4, h5, h6, h7⟩ := h.ex
  ⟨g, r, k, b, h1, h2, h3, h4, h5, by omega, h7⟩
theorem Box.tab {n N : Nat} {s : Sto} (h : Box n N s) : s.any (isTab tabN) = true := let ⟨_, _, _, _, _, _, _, _, _, _, h7⟩ := h.ex; h7
theorem idx_nat {xs : List D} {i : Nat} (h : i < xs.length) : Op.idx (.lst xs) (.int (i : Int)) = pure xs[i] := by
  have := at_range h
  rw [show (0 : Int) + (i : Int) = (i : Int) by omega] at this
  exact idx_lst this
theorem small : ∀ i < 12, i ≤ 9999 := by decide
@[simp] theorem lstK_lst {α : Type} (k : List D → M α) (xs : List D) : lstK k (.lst xs) = k xs := rfl
theorem number {n N : Nat} {s : Sto} (hb : Box n N s) (hN : N ≤ 900000) : ∃ (k : Nat) (s' : Sto), m__law_number [.ref n] s = .ok (.int (k : Int)) s' ∧ k ≤ 9999 ∧ Box n (N + 3) s' := by
  unfold m__law_number
  simp only [pure_bind, bind_assoc]
  obtain ⟨i, s1, e1, l1, b1⟩ := take (many := 12) hb (by omega) (by omega)
  rw [bind_ok e1]
  rw [show Op.mkL [D.int 9999, .int 9998, .int 100, .int 1000] = pure (.lst [.int 9999, .int 9998, .int 100, .int 1000]) from rfl, pure_bind]
  obtain ⟨j, s2, e2, l2, b2⟩ := take (many := 4) b1 (by omega) (by omega)
  rw [bind_ok e2]
  rw [idx_nat (show j < [D.int 9999, .int 9998, .int 100, .int 1000].length by simp; omega), pure_bind]
  obtain ⟨k, hk, ek⟩ : ∃ k ≤ 9999, [D.int 9999, .int 9998, .int 100, .int 1000][j]'(by simp; omega) = .int ((k : Nat) : Int) := by
    have hj : j < 4 := by omega
    match j, hj with
    | 0, _ => exact ⟨9999, by decide, rfl⟩
    | 1, _ => exact ⟨9998, by decide, rfl⟩
    | 2, _ => exact ⟨100, by decide, rfl⟩
    | 3, _ => exact ⟨1000, by decide, rfl⟩
  rw [ek]
  rw [show Op.mkL [D.int 0, .int 1, .int 2, .int 3, .int (i : Int), .int (k : Int)] = pure (.lst [.int 0, .int 1, .int 2, .int 3, .int (i : Int), .int (k : Int)]) from rfl, pure_bind]
  obtain ⟨m, s3, e3, l3, b3⟩ := take (many := 6) b2 (by omega) (by omega)
  rw [bind_ok e3]
  rw [idx_nat (show m < [D.int 0, .int 1, .int 2, .int 3, .int (i : Int), .int (k : Int)].length by simp; omega)]
  obtain ⟨q, hq, eq⟩ : ∃ q ≤ 9999, [D.int 0, .int 1, .int 2, .int 3, .int (i : Int), .int (k : Int)][m]'(by simp; omega) = .int ((q : Nat) : Int) := by
    have hm : m < 6 := by omega
    match m, hm with
    | 0, _ => exact ⟨0, by decide, rfl⟩
    | 1, _ => exact ⟨1, by decide, rfl⟩
    | 2, _ => exact ⟨2, by decide, rfl⟩
    | 3, _ => exact ⟨3, by decide, rfl⟩
    | 4, _ => exact ⟨i, small i (by omega), rfl⟩
    | 5, _ => exact ⟨k, hk, rfl⟩
  rw [eq]
  exact ⟨q, s3, rfl, hq, b3⟩
end Pl

set_option maxRecDepth 100000
set_option autoImplicit false
set_option maxHeartbeats 1000000
/-! PK33: versions compared. -/
namespace Pl
open PySem DL TL Mi L2 PySem.W
def cN (x y : Nat) : Int := if x = y then 0 else if x < y then -1 else 1
def cS (x y : Str) : Int := if x = y then 0 else if x.cps.toList < y.cps.toList then -1 else 1
def cW : Wd → Wd → Int
  | .n x, .n y => cN x y
  | .n _, .s _ => -1
  | .s _, .n _ => 1
  | .s x, .s y => cS x y
def cL : List Wd → List Wd → Int
  | [], [] => 0
  | [], _ :: _ => -1
  | _ :: _, [] => 1
  | x :: xs, y :: ys => if cW x y = 0 then cL xs ys else cW x y
def c3 (a b c a' b' c' : Nat) : Int := if cN a a' = 0 then (if cN b b' = 0 then cN c c' else cN b b') else cN a a'
def b2i (b : Bool) : Int := if b then 1 else 0
structure V where
  a : Nat
  b : Nat
  c : Nat
  ws : List Wd
def cV (v w : V) : Int := if c3 v.a v.b v.c w.a w.b w.c = 0 then (if v.ws.isEmpty || w.ws.isEmpty then b2i v.ws.isEmpty - b2i w.ws.isEmpty else cL v.ws w.ws) else c3 v.a v.b v.c w.a w.b w.c
/-! antisymmetry, range, equality -/
theorem cN_anti (x y : Nat) : cN y x = - cN x y := by
  unfold cN
  by_cases h : x = y
  · subst h; simp
  · rw [if_neg h, if_neg (fun z => h z.symm)]
    by_cases l : x < y
    · rw [if_pos l, if_neg (by omega)]; rfl
    · rw [if_neg l, if_pos (by omega)]
theorem cN_zero {x y : Nat} : cN x y = 0 ↔ x = y := by
  unfold cN
  by_cases h : x = y
  · simp [h]
  · by_cases l : x < y <;> simp [h, l]
theorem cN_rng (x y : Nat) : cN x y = -1 ∨ cN x y = 0 ∨ cN x y = 1 := by
  unfold cN
  by_cases h : x = y
  · simp [h]
  · by_cases l : x < y <;> simp [h, l]
theorem cps_ext {x y : Str} (h : x.cps.toList = y.cps.toList) : x = y := str_of_cps h
theorem cS_anti (x y : Str) : cS y x = - cS x y := by
  unfold cS
  by_cases e : x = y
  · subst e; simp
  · have e' : ¬ y = x := fun z => e z.symm
    rw [if_neg e, if_neg e']
    have ne : x.cps.toList ≠ y.cps.toList := fun z => e (cps_ext z)
    by_cases l : x.cps.toList < y.cps.toList
    · rw [if_pos l, if_neg (fun z => (List.lt_asymm l z).elim)]; rfl
    · rw [if_neg l]
      by_cases l2 : y.cps.toList < x.cps.toList
      · rw [if_pos l2]
      · exact absurd (List.le_antisymm (List.not_lt.mp l2) (List.not_lt.mp l)) ne
theorem cS_zero {x y : Str} : cS x y = 0 ↔ x = y := by
  unfold cS
  by_cases h : x = y
  · simp [h]
  · by_cases l : x.cps.toList < y.cps.toList <;> simp [h, l]
theorem cS_rng (x y : Str) : cS x y = -1 ∨ cS x y = 0 ∨ cS x y = 1 := by
  unfold cS
  by_cases h : x = y
  · simp [h]
  · by_cases l : x.cps.toList < y.cps.toList <;> simp [h, l]
theorem cW_anti (x y : Wd) : cW y x = - cW x y := by
  cases x <;> cases y
  · exact cN_anti _ _
  · rfl
  · rfl
  · exact cS_anti _ _
theorem cW_zero {x y : Wd} : cW x y = 0 ↔ x = y := by cases x <;> cases y <;> simp [cW, cN_zero, cS_zero]
theorem cW_rng (x y : Wd) : cW x y = -1 ∨ cW x y = 0 ∨ cW x y = 1 := by
  cases x <;> cases y <;> simp [cW] <;> first | exact cN_rng _ _ | exact cS_rng _ _
theorem cL_anti : ∀ xs ys : List Wd, cL ys xs = - cL xs ys
  | [], [] => rfl
  | [], _ :: _ => rfl
  | _ :: _, [] => rfl
  | x :: xs, y :: ys => by
    unfold cL
    by_cases h : cW x y = 0
    · rw [if_pos h, if_pos (by rw [cW_anti, h]; rfl), cL_anti xs ys]
    · rw [if_neg h, if_neg (by rw [cW_anti]; omega), cW_anti]
theorem cL_zero : ∀ {xs ys : List Wd}, cL xs ys = 0 ↔ xs = ys
  | [], [] => by simp [cL]
  | [], _ :: _ => by simp [cL]
  | _ :: _, [] => by simp [cL]
  | x :: xs, y :: ys => by
    unfold cL
    by_cases h : cW x y = 0
    · rw [if_pos h, cL_zero, cW_zero.mp h]; simp
    · rw [if_neg h]
      constructor
      · intro z; exact absurd z h
      · intro z; cases z; exact cW_zero.mpr rfl
theorem cL_rng : ∀ xs ys : List Wd, cL xs ys = -1 ∨ cL xs ys = 0 ∨ cL xs ys = 1
  | [], [] => by simp [cL]
  | [], _ :: _ => by simp [cL]
  | _ :: _, [] => by simp [cL]
  | x :: xs, y :: ys => by
    unfold cL
    split
    · exact cL_rng xs ys
    · exact cW_rng x y
theorem c3_anti (a b c a' b' c' : Nat) : c3 a' b' c' a b c = - c3 a b c a' b' c' := by
  unfold c3
  rw [cN_anti a a', cN_anti b b', cN_anti c c']
  by_cases h : cN a a' = 0 <;> by_cases h2 : cN b b' = 0 <;> simp [h, h2]
theorem c3_zero {a b c a' b' c' : Nat} : c3 a b c a' b' c' = 0 ↔ a = a' ∧ b = b' ∧ c = c' := by
  unfold c3
  by_cases h : cN a a' = 0
  · rw [if_pos h]
    by_cases h2 : cN b b' = 0
    · rw [if_pos h2, cN_zero]; simp [cN_zero.mp h, cN_zero.mp h2]
    · rw [if_neg h2]
      have : b ≠ b' := fun z => h2 (cN_zero.mpr z)
      simp [h2, this]
  · rw [if_neg h]
    have : a ≠ a' := fun z => h (cN_zero.mpr z)
    simp [h, this]
theorem c3_rng (a b c a' b' c' : Nat) : c3 a b c a' b' c' = -1 ∨ c3 a b c a' b' c' = 0 ∨ c3 a b c a' b' c' = 1 := by
  unfold c3
  split
  · split
    · exact cN_rng _ _
    · exact cN_rng _ _
  · exact cN_rng _ _
theorem cV_anti (v w : V) : cV w v = - cV v w := by
  unfold cV
  rw [c3_anti v.a v.b v.c w.a w.b w.c, cL_anti v.ws w.ws, Bool.or_comm w.ws.isEmpty]
  by_cases h : c3 v.a v.b v.c w.a w.b w.c = 0
  · simp only [h, Int.neg_zero, if_true]
    split <;> omega
  · rw [if_neg (by omega), if_neg h]
theorem cV_zero {v w : V} : cV v w = 0 ↔ v = w := by
  obtain ⟨a, b, c, ws⟩ := v
  obtain ⟨a', b', c', vs⟩ := w
  unfold cV
  dsimp only
  by_cases h : c3 a b c a' b' c' = 0
  · rw [if_pos h]
    obtain ⟨rfl, rfl, rfl⟩ := c3_zero.mp h
    cases ws <;> cases vs <;> simp [b2i, cL_zero]
  · rw [if_neg h]
    constructor
    · intro z; exact absurd z h
    · intro z
      cases z
      exact c3_zero.mpr ⟨rfl, rfl, rfl⟩
theorem cV_rng (v w : V) : cV v w = -1 ∨ cV v w = 0 ∨ cV v w = 1 := by
  unfold cV
  split
  · split
    · unfold b2i
      split <;> split <;> simp
    · exact cL_rng _ _
  · exact c3_rng _ _ _ _ _ _
/-! keys -/
def KW : Wd → PyData
  | .n x => .tuple [.int 0, .int (x : Int), .str ("" : Str)]
  | .s x => .tuple [.int 1, .int 0, .str x]
def K3 (a b c : Nat) : PyData := .tuple [.int (a : Int), .int (b : Int), .int (c : Int)]
def KV (v : V) : PyData := .tuple [K3 v.a v.b v.c, .int (b2i v.ws.isEmpty), .list (v.ws.map KW)]
theorem row_nil : rowLt [] [] = false := PyProof.Rows.lex_irrefl _
theorem row_lt (y : PyData) (ys : List PyData) : rowLt [] (y :: ys) = true := by
  unfold rowLt
  rw [toks_all_cons]
  simp only [keyToksAll]
  rw [PyProof.Rows.lex_diff (O := PyProof.Rows.itemOrd) (by simp)]
  rfl
theorem row_gt (y : PyData) (ys : List PyData) : rowLt (y :: ys) [] = false := by
  unfold rowLt
  rw [toks_all_cons]
  simp only [keyToksAll]
  rw [PyProof.Rows.lex_diff (O := PyProof.Rows.itemOrd) (by simp)]
  rfl
theorem row_cons {x y : PyData} (h : alike x y = true) (xs ys : List PyData) : rowLt (x :: xs) (y :: ys) = if PyData.eqv x y = true then rowLt xs ys else dataLt x y := dataLt_cons h xs ys
theorem lt_tup (xs ys : List PyData) : dataLt (.tuple xs) (.tuple ys) = rowLt xs ys := dataLt_tuple xs ys
theorem lt_lst (xs ys : List PyData) : dataLt (.list xs) (.list ys) = rowLt xs ys := dataLt_list xs ys
theorem eqv_int (x y : Int) : PyData.eqv (.int x) (.int y) = decide (x = y) := by simp [PyData.eqv]; rfl
theorem eqv_nat (x y : Nat) : PyData.eqv (.int (x : Int)) (.int (y : Int)) = decide (cN x y = 0) := by rw [eqv_int]; simp only [cN_zero]; exact decide_eq_decide.mpr (by omega)
theorem eqv_str (x y : Str) : PyData.eqv (.str x) (.str y) = decide (cS x y = 0) := by simp [PyData.eqv, cS_zero]; rfl
theorem lt_nat (x y : Nat) : dataLt (.int (x : Int)) (.int (y : Int)) = decide (cN x y = -1) := by
  rw [dataLt_int]
  unfold cN
  by_cases h : x = y
  · simp [h]
  · by_cases h2 : x < y
    · simp [h, h2]
    · simp [h, h2]
theorem lt_str (x y : Str) : dataLt (.str x) (.str y) = decide (cS x y = -1) := by
  rw [dataLt_str]
  unfold cS
  by_cases h : x = y
  · subst h
    simp
  · by_cases h2 : x.cps.toList < y.cps.toList
    · simp [h, h2]
    · simp [h, h2]
theorem alike_W (x y : Wd) : alike (KW x) (KW y) = true := by cases x <;> cases y <;> simp [KW, alike, alikeAll]
theorem eqv_W (x y : Wd) : PyData.eqv (KW x) (KW y) = decide (cW x y = 0) := by
  cases x <;> cases y <;> simp [KW, cW, PyData.eqv, PyData.eqvAll, cN_zero, cS_zero]
  · rw [Bool.eq_iff_iff]; simp; omega
  · rw [Bool.eq_iff_iff]; simp
theorem lt_W (x y : Wd) : dataLt (KW x) (KW y) = decide (cW x y = -1) := by
  cases x <;> cases y <;> simp only [KW, cW, lt_tup]
  · rw [row_cons (by simp [alike]), eqv_int, row_cons (by simp [alike]), eqv_nat, lt_nat, row_cons (by simp [alike]), eqv_str]
    rename_i p q
    rcases cN_rng p q with h | h | h <;> simp [h, cS, row_nil]
  · rw [row_cons (by simp [alike]), eqv_int, dataLt_int]
    simp
  · rw [row_cons (by simp [alike]), eqv_int, dataLt_int]
    simp
  · rw [row_cons (by simp [alike]), eqv_int, row_cons (by simp [alike]), eqv_int, row_cons (by simp [alike]), eqv_str, lt_str, row_nil]
    rename_i p q
    rcases cS_rng p q with h | h | h <;> simp [h]
theorem row_L : ∀ xs ys : List Wd, rowLt (xs.map KW) (ys.map KW) = decide (cL xs ys = -1)
  | [], [] => by simp [cL, row_nil]
  | [], y :: ys => by simp [cL, row_lt]
  | x :: xs, [] => by simp [cL, row_gt]
  | x :: xs, y :: ys => by
    rw [List.map_cons, List.map_cons, row_cons (alike_W x y), eqv_W, row_L xs ys, lt_W]
    rw [show cL (x :: xs) (y :: ys) = if cW x y = 0 then cL xs ys else cW x y from rfl]
    by_cases h : cW x y = 0 <;> simp [h]
theorem eqv_L : ∀ xs ys : List Wd, PyData.eqv (.list (xs.map KW)) (.list (ys.map KW)) = decide (cL xs ys = 0)
  | [], [] => by simp [cL, PyData.eqv, PyData.eqvAll]
  | [], y :: ys => by simp [cL, PyData.eqv, PyData.eqvAll]
  | x :: xs, [] => by simp [cL, PyData.eqv, PyData.eqvAll]
  | x :: xs, y :: ys => by
    have ih := eqv_L xs ys
    simp only [PyData.eqv] at ih
    simp only [List.map_cons, PyData.eqv, PyData.eqvAll, eqv_W, ih]
    rw [show cL (x :: xs) (y :: ys) = if cW x y = 0 then cL xs ys else cW x y from rfl]
    by_cases h : cW x y = 0 <;> simp [h]
theorem eqv_3 (a b c a' b' c' : Nat) : PyData.eqv (K3 a b c) (K3 a' b' c') = decide (c3 a b c a' b' c' = 0) := by
  simp [K3, PyData.eqv, PyData.eqvAll, c3_zero]
  rw [Bool.eq_iff_iff]; simp; omega
theorem lt_3 (a b c a' b' c' : Nat) : dataLt (K3 a b c) (K3 a' b' c') = decide (c3 a b c a' b' c' = -1) := by
  unfold K3 c3
  rw [lt_tup, row_cons (by simp [alike]), eqv_nat, lt_nat, row_cons (by simp [alike]), eqv_nat, lt_nat, row_cons (by simp [alike]), eqv_nat, lt_nat, row_nil]
  by_cases h : cN a a' = 0 <;> by_cases h2 : cN b b' = 0 <;> by_cases h3 : cN c c' = 0 <;> simp [h, h2, h3]
theorem alike_L : ∀ xs ys : List Wd, alikeAll (xs.map KW) (ys.map KW) = true
  | [], _ => by simp [alikeAll]
  | _ :: _, [] => by simp [alikeAll]
  | x :: xs, y :: ys => by simp only [List.map_cons, alikeAll, alike_W, alike_L xs ys, Bool.and_self]
theorem alike_V (v w : V) : alike (KV v) (KV w) = true := by
  unfold KV K3
  simp only [alike, alikeAll, alike_L, Bool.and_self]
theorem lt_V (v w : V) : dataLt (KV v) (KV w) = decide (cV v w = -1) := by
  unfold KV cV
  rw [lt_tup, row_cons (by simp [K3, alike, alikeAll]), eqv_3, lt_3, row_cons (by simp [alike]), eqv_int, dataLt_int, row_cons (by simp only [alike, alike_L]), eqv_L, lt_lst, row_L, row_nil]
  by_cases h : c3 v.a v.b v.c w.a w.b w.c = 0
  · simp only [h, decide_true, if_true]
    cases hv : v.ws <;> cases hw : w.ws <;> simp [b2i, cL]
    rename_i x xs y ys
    by_cases h2 : (if cW x y = 0 then cL xs ys else cW x y) = 0
    · simp [h2]
    · simp only [h2, decide_false, Bool.false_eq_true, if_false]; rfl
  · simp only [h, decide_false, Bool.false_eq_true, if_false]
end Pl

set_option maxRecDepth 100000
set_option autoImplicit false
set_option maxHeartbeats 1000000
/-! PN33: key_of, compare, _law_comes. -/
namespace Pl
open PySem DL TL Mi L2 PySem.W
def V.d (v : V) : D := vD v.a v.b v.c v.ws
def V.t (v : V) : Str := textP v.a v.b v.c v.ws
def V.Good (v : V) : Prop := Pl.Good v.a v.b v.c v.ws
def wkD : Wd → D
  | .n x => .tup [.int 0, .int (x : Int), .str ("" : Str)]
  | .s x => .tup [.int 1, .int 0, .str x]
def keyD (v : V) : D := .tup [.tup [.int (v.a : Int), .int (v.b : Int), .int (v.c : Int)], .int (b2i v.ws.isEmpty), .lst (v.ws.map wkD)]
theorem toP_wk (w : Wd) : D.toP (wkD w) = KW w := by cases w <;> rfl
theorem toP_key (v : V) : D.toP (keyD v) = KV v := by
  have : D.toPL (v.ws.map wkD) = v.ws.map KW := by
    rw [toPL_map, List.map_map]
    exact List.map_congr_left fun w _ => toP_wk w
  show PyData.tuple [.tuple [.int _, .int _, .int _], .int _, .list (D.toPL (v.ws.map wkD))] = _
  rw [this]
  rfl
theorem lay_wk (n : Nat) (w : Wd) : D.lay (n + 1) (wkD w) = true := by cases w <;> simp [wkD]
theorem lay_key (v : V) : D.lay 40 (keyD v) = true := by
  unfold keyD
  have : (v.ws.map wkD).all (D.lay 38) = true := by
    rw [List.all_map]
    exact List.all_eq_true.mpr fun w _ => lay_wk 37 w
  simp [this]
theorem ordOk_key (v w : V) : Op.ordOk (keyD v) (keyD w) = true := by
  unfold Op.ordOk
  rw [lay_key, lay_key, toP_key, toP_key, alike_V]
  rfl
theorem gt_key (v w : V) : Op.gtG (keyD v) (keyD w) = pure (.bl (decide (cV w v = -1))) := by
  show Op.gt2 (keyD v) (keyD w) = _
  unfold Op.gt2
  rw [ordOk_key, if_pos rfl, toP_key, toP_key, lt_V]
theorem lt_key (v w : V) : Op.ltG (keyD v) (keyD w) = pure (.bl (decide (cV v w = -1))) := by
  show Op.lt2 (keyD v) (keyD w) = _
  unfold Op.lt2
  rw [ordOk_key, if_pos rfl, toP_key, toP_key, lt_V]
theorem int_bl (b : Bool) : Bi.int [.bl b] = pure (.int (b2i b)) := rfl
theorem mk3t (x y z : D) : Op.mkT [x, y, z] = pure (.tup [x, y, z]) := rfl
theorem key_of (v : V) (h : v.ws.length ≤ 100) : m_key_of [v.d] = pure (keyD v) := by
  unfold m_key_of V.d vD
  simp only [pure_bind, ix3, items_tup]
  rw [comp_mapF (g := wkD) (fun w _ => by cases w <;> simp [Wd.d, wkD, isiTab, mk3t]) (by omega)]
  simp only [pure_bind, asInt_int, slc3, mkT_nil, eq_nilT, int_bl, mk3t]
  rfl
/-! the law's own -/
theorem zip2 (xs ys : List D) : zipD [.tup xs, .tup ys] = pure (List.zipWith pairD xs ys) := rfl
theorem un2t (x y : D) : un2 (.tup [x, y]) = pure (x, y) := rfl
theorem neg1 : Op.neg (.int 1) = pure (.int (-1)) := rfl
def zW : List Wd → List Wd → Int
  | x :: xs, y :: ys => if cW x y = 0 then zW xs ys else cW x y
  | _, _ => 0
theorem cL_zW : ∀ xs ys : List Wd, cL xs ys = if zW xs ys = 0 then b2i (decide (ys.length < xs.length)) - b2i (decide (xs.length < ys.length)) else zW xs ys
  | [], [] => rfl
  | [], y :: ys => by simp [cL, zW, b2i]
  | x :: xs, [] => by simp [cL, zW, b2i]
  | x :: xs, y :: ys => by
    rw [show cL (x :: xs) (y :: ys) = if cW x y = 0 then cL xs ys else cW x y from rfl, show zW (x :: xs) (y :: ys) = if cW x y = 0 then zW xs ys else cW x y from rfl, cL_zW xs ys]
    by_cases h : cW x y = 0 <;> simp [h]
theorem lt_strD (x y : Str) : Op.ltG (.str x) (.str y) = pure (.bl (decide (x.cps.toList < y.cps.toList))) := by
  show Op.lt2 (.str x) (.str y) = _
  unfold Op.lt2
  rw [show Op.ordOk (.str x) (.str y) = true from rfl, if_pos rfl, show D.toP (.str x) = .str x from rfl, show D.toP (.str y) = .str y from rfl, dataLt_str]
def wbody (x : D) : M (Fl Unit) := un2 x >>= fun b55 => (Bi.isi "int" b55.1 >>= fun x56 => Bi.isi "int" b55.2 >>= fun y57 => Op.ne x56 y57 >>= truthB) >>= fun b => if b then (Bi.isi "int" b55.1 >>= truthB >>= fun t => if t then Op.neg (.int 1) else pure (D.int 1)) >>= fun d => pure (Fl.rt d) else Op.ne b55.1 b55.2 >>= truthB >>= fun b => if b then (Op.ltG b55.1 b55.2 >>= truthB >>= fun t => if t then Op.neg (.int 1) else pure (D.int 1)) >>= fun d => pure (Fl.rt d) else pure (Fl.nx ())
def fin_ (c : Int) : Fl Unit := if c = 0 then .nx () else .rt (.int c)
theorem nbody {x y : Nat} : (Op.ne (.int (x : Int)) (.int (y : Int)) >>= truthB >>= fun b => if b then (Op.ltG (.int (x : Int)) (.int (y : Int)) >>= truthB >>= fun t => if t then Op.neg (.int 1) else pure (D.int 1)) >>= fun d => pure (Fl.rt d) else (pure (Fl.nx ()) : M (Fl Unit))) = pure (fin_ (cN x y)) := by
  simp only [ne_ii, pure_bind, truthB_bl, ltG_ii, neg1]
  unfold fin_ cN
  by_cases h : x = y
  · simp [h]
  · have h' : ((x : Int) == (y : Int)) = false := by simp; omega
    rw [h']
    by_cases l : x < y
    · have l' : (x : Int) < (y : Int) := by omega
      simp [h, l, l']
    · have l' : ¬ (x : Int) < (y : Int) := by omega
      simp [h, l, l']
theorem wbody_eq (x y : Wd) : wbody (.tup [x.d, y.d]) = pure (fin_ (cW x y)) := by
  unfold wbody
  cases x with
  | n x => cases y with
    | n y =>
      simp only [un2t, pure_bind, Wd.d, isiI, ne_bb, beq_self_eq_true, Bool.not_true, truthB_bl, Bool.false_eq_true, if_false]
      exact nbody
    | s y => simp [un2t, Wd.d, isiTab, neg1, fin_, cW]
  | s x => cases y with
    | n y => simp [un2t, Wd.d, isiTab, neg1, fin_, cW]
    | s y =>
      simp only [un2t, pure_bind, Wd.d, isiS, ne_bb, beq_self_eq_true, Bool.not_true, truthB_bl, Bool.false_eq_true, if_false, ne_ss, lt_strD, neg1]
      unfold fin_ cW cS
      by_cases h : x = y
      · simp [h]
      · by_cases l : x.cps.toList < y.cps.toList <;> simp [h, l]
theorem wloop : ∀ xs ys : List Wd, forF (fun x (_ : Unit) => wbody x) (List.zipWith pairD (xs.map Wd.d) (ys.map Wd.d)) () = pure (fin_ (zW xs ys))
  | [], _ => rfl
  | _ :: _, [] => rfl
  | x :: xs, y :: ys => by
    simp only [List.map_cons, List.zipWith_cons_cons]
    unfold forF
    rw [show pairD x.d y.d = .tup [x.d, y.d] from rfl, wbody_eq, pure_bind, show zW (x :: xs) (y :: ys) = if cW x y = 0 then zW xs ys else cW x y from rfl]
    by_cases h : cW x y = 0
    · rw [h, if_pos rfl]
      exact wloop xs ys
    · rw [if_neg h]
      unfold fin_
      rw [if_neg h]
theorem loop3 (a b c a' b' c' : Nat) : forF (fun x15 (t1 : Unit) => un2 x15 >>= fun b8 => Op.ne b8.1 b8.2 >>= truthB >>= fun b => if b then (Op.ltG b8.1 b8.2 >>= truthB >>= fun t => if t then Op.neg (.int 1) else pure (D.int 1)) >>= fun d => pure (Fl.rt d) else (pure (Fl.nx ()) : M (Fl Unit))) [pairD (.int (a : Int)) (.int (a' : Int)), pairD (.int (b : Int)) (.int (b' : Int)), pairD (.int (c : Int)) (.int (c' : Int))] () = pure (fin_ (c3 a b c a' b' c')) := by
  have e : ∀ x y : Nat, (un2 (pairD (.int (x : Int)) (.int (y : Int))) >>= fun b8 => Op.ne b8.1 b8.2 >>= truthB >>= fun b => if b then (Op.ltG b8.1 b8.2 >>= truthB >>= fun t => if t then Op.neg (.int 1) else pure (D.int 1)) >>= fun d => pure (Fl.rt d) else (pure (Fl.nx ()) : M (Fl Unit))) = pure (fin_ (cN x y)) := fun x y => nbody
  unfold forF
  rw [e, pure_bind]
  unfold c3
  by_cases h : cN a a' = 0
  · rw [h, if_pos rfl]
    show forF _ _ () = _
    unfold forF
    rw [e, pure_bind]
    by_cases h2 : cN b b' = 0
    · rw [h2, if_pos rfl]
      show forF _ _ () = _
      unfold forF
      rw [e, pure_bind]
      by_cases h3 : cN c c' = 0
      · rw [h3]; rfl
      · unfold fin_; rw [if_neg h3]
    · rw [if_neg h2]; unfold fin_; rw [if_neg h2]
  · rw [if_neg h]; unfold fin_; rw [if_neg h]
theorem comes (v w : V) : m__law_comes [v.d, w.d] = pure (.int (cV v w)) := by
  unfold m__law_comes V.d vD
  simp only [pure_bind, asInt_int, slc3, zip2, ix3, mkT_nil, eq_nilT, List.zipWith_cons_cons, List.zipWith_nil_right, truthB_bl, int_bl, sub_ii, len_tup, gtG_ii, ltG_ii]
  rw [loop3, pure_bind]
  unfold cV
  unfold fin_
  by_cases h : c3 v.a v.b v.c w.a w.b w.c = 0
  · rw [if_pos h, if_pos h]
    show ((if v.ws.isEmpty = true then pure true else pure w.ws.isEmpty) >>= fun b => _) = _
    have hb : (if v.ws.isEmpty = true then (pure true : M Bool) else pure w.ws.isEmpty) = pure (v.ws.isEmpty || w.ws.isEmpty) := by cases v.ws.isEmpty <;> rfl
    rw [hb, pure_bind]
    by_cases h2 : (v.ws.isEmpty || w.ws.isEmpty) = true
    · rw [if_pos h2, if_pos h2]
    · rw [if_neg h2, if_neg h2]
      have wl := wloop v.ws w.ws
      unfold wbody at wl
      rw [wl, pure_bind, cL_zW]
      unfold fin_
      by_cases h3 : zW v.ws w.ws = 0
      · rw [if_pos h3, if_pos h3]
        show pure (D.int (b2i _ - b2i _)) = pure (D.int _)
        simp only [List.length_map, Int.ofNat_lt]
      · rw [if_neg h3, if_neg h3]; rfl
  · rw [if_neg h, if_neg h]; rfl
end Pl

set_option maxRecDepth 100000
set_option autoImplicit false
set_option maxHeartbeats 1000000
/-! PQ34: one bound of a range, read by the program and by the law. -/
namespace Pl
open PySem DL TL Mi L2 PySem.W
inductive Sg where
  | le | ge | eq | lt | gt | ca | ti
def Sg.t : Sg → Str
  | .le => ("<=" : Str) | .ge => (">=" : Str) | .eq => ("=" : Str) | .lt => ("<" : Str) | .gt => (">" : Str) | .ca => ("^" : Str) | .ti => ("~" : Str)
def Sg.n : Sg → Nat
  | .le => 2 | .ge => 2 | _ => 1
def signOf : List Nat → Option Sg
  | 60 :: 61 :: _ => some .le
  | 62 :: 61 :: _ => some .ge
  | 61 :: _ => some .eq
  | 60 :: _ => some .lt
  | 62 :: _ => some .gt
  | 94 :: _ => some .ca
  | 126 :: _ => some .ti
  | _ => none
def whole (a b c : Nat) : Nat := (a * 10000 + b) * 10000 + c
def END : Nat := 1000000000000
def bnd (s : Sg) (a b c : Nat) : Nat × Nat := match s with
  | .ti => (whole a b c, whole a b 0 + 10000)
  | .ca => (whole a b c, if a = 0 ∧ b ≠ 0 then whole a b 0 + 10000 else if a ≠ 0 then whole a 0 0 + 100000000 else whole a b c + 1)
  | .eq => (whole a b c, whole a b c + 1)
  | .ge => (whole a b c, END)
  | .gt => (whole a b c + 1, END)
  | .lt => (0, whole a b c)
  | .le => (0, whole a b c + 1)
/-- the three numbers of a version without words -/
def threeO (r : Str) : Option (Nat × Nat × Nat) := if okP (cutN r) (cutW r) && (cutW r).isEmpty then (match (cutN r).map fun x => NumText.digitsVal (tl x) with
  | [a, b, c] => some (a, b, c)
  | _ => none) else none
def boundO (t : Str) : Option (Nat × Nat) := if t == ("*" : Str) then some (0, END) else match signOf (tl t) with
  | none => none
  | some s => (threeO (cutS t (some (s.n : Int)) none)).map fun x => bnd s x.1 x.2.1 x.2.2
def bD : Option (Nat × Nat) → D
  | none => .non
  | some (l, h) => .tup [.int (l : Int), .int (h : Int)]
/-! numbers -/
theorem mulK {i : Int} {k : Int} (h : -18446744073709551616 < k ∧ k < 18446744073709551616) : Op.mul (.int i) (.int k) = pure (.int (i * k)) := mulR h
def n3 (a b c : Nat) : D := .tup [.int (a : Int), .int (b : Int), .int (c : Int)]
theorem n3_0 (a b c : Nat) : Op.idx (n3 a b c) (.int 0) = pure (.int (a : Int)) := idx_tup rfl
theorem n3_1 (a b c : Nat) : Op.idx (n3 a b c) (.int 1) = pure (.int (b : Int)) := idx_tup rfl
theorem n3_2 (a b c : Nat) : Op.idx (n3 a b c) (.int 2) = pure (.int (c : Int)) := idx_tup rfl
theorem number_of (a b c : Nat) : m_number_of [n3 a b c] = pure (.int (whole a b c : Nat)) := by
  unfold m_number_of c_BASE
  simp only [pure_bind, n3_0, n3_1, n3_2, mulK (k := 10000) (by omega), add_ii]
  congr 2
theorem law_whole3 (a b c : Nat) : m__law_whole [n3 a b c] = pure (.int (whole a b c : Nat)) := by
  unfold m__law_whole
  simp only [pure_bind, n3_0, n3_1, n3_2, mulK (k := 10000) (by omega), add_ii]
  congr 2
theorem vD_0 (a b c : Nat) (ws : List Wd) : Op.idx (vD a b c ws) (.int 0) = pure (.int (a : Int)) := idx_tup rfl
theorem vD_1 (a b c : Nat) (ws : List Wd) : Op.idx (vD a b c ws) (.int 1) = pure (.int (b : Int)) := idx_tup rfl
theorem vD_2 (a b c : Nat) (ws : List Wd) : Op.idx (vD a b c ws) (.int 2) = pure (.int (c : Int)) := idx_tup rfl
theorem law_whole4 (a b c : Nat) (ws : List Wd) : m__law_whole [vD a b c ws] = pure (.int (whole a b c : Nat)) := by
  unfold m__law_whole
  simp only [pure_bind, vD_0, vD_1, vD_2, mulK (k := 10000) (by omega), add_ii]
  congr 2
theorem mk3n (a b c : Nat) : Op.mkT [.int (a : Int), .int (b : Int), .int (c : Int)] = pure (n3 a b c) := rfl
theorem mk2t (x y : D) : Op.mkT [x, y] = pure (.tup [x, y]) := rfl
theorem un3n (a b c : Nat) : un3 (n3 a b c) = pure (.int (a : Int), .int (b : Int), .int (c : Int)) := rfl
theorem cast0 : (D.int 0) = .int ((0 : Nat) : Int) := rfl
theorem nat_eq0 (a : Nat) : ((a : Int) == 0) = decide (a = 0) := by
  rw [Bool.eq_iff_iff]; simp
theorem high_of (s : Sg) (hs : s = .ca ∨ s = .ti) (a b c : Nat) : m_high_of [.str s.t, n3 a b c] = pure (.int ((bnd s a b c).2 : Nat)) := by
  have h1 : m_number_of [n3 a b 0] = pure (.int (whole a b 0 : Nat)) := number_of a b 0
  have h2 : m_number_of [n3 a 0 0] = pure (.int (whole a 0 0 : Nat)) := number_of a 0 0
  have e1 : Op.mkT [.int (a : Int), .int (b : Int), .int 0] = pure (n3 a b 0) := rfl
  have e2 : Op.mkT [.int (a : Int), .int 0, .int 0] = pure (n3 a 0 0) := rfl
  unfold m_high_of c_BASE
  simp only [pure_bind, un3n, eq_ss, eq_ii, ne_ii, nat_eq0, truthB_bl, e1, e2, h1, h2, number_of, add_ii, mulK (k := 10000) (by omega)]
  rcases hs with rfl | rfl
  · rw [show ((Sg.ca.t : Str) == ("~" : Str)) = false from by decide]
    simp only [Bool.false_eq_true, if_false]
    by_cases ha : a = 0
    · by_cases hb : b = 0
      · subst ha hb; rfl
      · simp [ha, hb, bnd]
    · simp [ha, bnd]
  · rw [show ((Sg.ti.t : Str) == ("~" : Str)) = true from by decide]
    simp only [if_true, pure_bind]
    rfl
theorem isIn2 (x a b : Str) : Op.isIn (.str x) (.tup [.str a, .str b]) = pure (.bl (a == x || b == x)) := by
  show (match Op.isIn0 (.str x) (.tup [.str a, .str b]) with | some b => (pure (D.bl b) : M D) | none => M.bad) = _
  have : Op.isIn0 (.str x) (.tup [.str a, .str b]) = some (a == x || b == x) := by
    show (if (D.lay 40 (.str x) && [D.str a, D.str b].all (D.lay 40)) = true then some ([D.str a, D.str b].any fun y => D.eqb y (.str x)) else none) = _
    rw [if_pos (by simp)]
    simp [D.eqb]
  rw [this]
theorem bounds_of (s : Sg) (a b c : Nat) : m_bounds_of [.str s.t, n3 a b c] = pure (bD (some (bnd s a b c))) := by
  have hc := high_of .ca (.inl rfl) a b c
  have ht := high_of .ti (.inr rfl) a b c
  unfold m_bounds_of c_END
  simp only [pure_bind, number_of, mk2t, isIn2, truthB_bl, eq_ss]
  cases s with
  | ca =>
    rw [show (("^" : Str) == Sg.ca.t || ("~" : Str) == Sg.ca.t) = true from by decide]
    simp only [if_true, hc, pure_bind]
    rfl
  | ti =>
    rw [show (("^" : Str) == Sg.ti.t || ("~" : Str) == Sg.ti.t) = true from by decide]
    simp only [if_true, ht, pure_bind]
    rfl
  | _ => rfl
/-! what is read behind the sign -/
theorem lay_wordD (n : Nat) (t : Str) : D.lay n (wordD t) = true := by unfold wordD numD; split <;> simp
theorem partsD_three (r : Str) : (∃ a b c, threeO r = some (a, b, c) ∧ partsD (cutN r) (cutW r) = vD a b c []) ∨ (threeO r = none ∧ (partsD (cutN r) (cutW r) = .non ∨ ∃ x y z w ws, partsD (cutN r) (cutW r) = .tup [x, y, z, .tup (w :: ws)] ∧ (w :: ws).all (D.lay 39) = true)) := by
  unfold threeO partsD
  by_cases h : okP (cutN r) (cutW r) = true
  · have h' := h
    unfold okP at h'
    simp only [Bool.and_eq_true, decide_eq_true_eq] at h'
    obtain ⟨⟨hl, _⟩, _⟩ := h'
    rw [h, if_pos rfl, Bool.true_and]
    generalize cutN r = ns at hl h
    generalize cutW r = ws at h
    match ns, hl with
    | [p, q, t], _ =>
      cases ws with
      | nil =>
        left
        exact ⟨_, _, _, rfl, rfl⟩
      | cons w ws =>
        right
        refine ⟨rfl, .inr ⟨numD p, numD q, numD t, wordD w, ws.map wordD, rfl, ?_⟩⟩
        rw [← List.map_cons, List.all_map]
        exact List.all_eq_true.mpr fun x _ => lay_wordD _ x
  · right
    rw [if_neg h, show okP (cutN r) (cutW r) = false from by simpa using h]
    exact ⟨rfl, .inl rfl⟩
theorem ix3t (x y z w : D) : Op.idx (.tup [x, y, z, w]) (.int 3) = pure w := idx_tup rfl
theorem slc3t (x y z w : D) : Op.slc (.tup [x, y, z, w]) none (some 3) = pure (.tup [x, y, z]) := rfl
theorem eq_nonil {w : D} {ws : List D} (h : (w :: ws).all (D.lay 39) = true) : Op.eq (.tup (w :: ws)) (.tup []) = pure (.bl false) := by
  have h' := h
  rw [DL.eq_of (by rw [lay_tup]; exact h') (by simp)]; rfl
theorem ne_nonil {w : D} {ws : List D} (h : (w :: ws).all (D.lay 39) = true) : Op.ne (.tup (w :: ws)) (.tup []) = pure (.bl true) := by
  have h' := h
  rw [DL.ne_of (by rw [lay_tup]; exact h') (by simp)]; rfl
end Pl

set_option maxRecDepth 100000
set_option autoImplicit false
set_option maxHeartbeats 1000000
/-! PR34: the sign of a bound. -/
namespace Pl
open PySem DL TL Mi L2 PySem.W
theorem starts_pre {x y : Str} (hy : tl y ≠ []) : Txt.startswith x y = pre (tl y) (tl x) := by
  have h := at_iff (x := x) hy 0
  rw [List.drop_zero] at h
  rw [Bool.eq_iff_iff, ← h]
  unfold Txt.startswith
  rw [Bool.and_eq_true, decide_eq_true_eq]
  exact Iff.rfl
def SGS : List Sg := [.le, .ge, .eq, .lt, .gt, .ca, .ti]
theorem sg_ne (s : Sg) : tl s.t ≠ [] := by cases s <;> decide
theorem sg_len (s : Sg) : (s.t.length : Int) = (s.n : Int) := by cases s <;> decide
theorem sg_len' (s : Sg) : s.t.length = s.n := by cases s <;> decide
/-- the first sign that the text starts with -/
def firstOf (t : Str) : List Sg → Option Sg
  | [] => none
  | s :: r => if Txt.startswith t s.t then some s else firstOf t r
theorem first_sign (t : Str) : firstOf t SGS = signOf (tl t) := by
  have e : ∀ s : Sg, Txt.startswith t s.t = pre (tl s.t) (tl t) := fun s => starts_pre (sg_ne s)
  have t1 : tl Sg.le.t = [60, 61] := by decide
  have t2 : tl Sg.ge.t = [62, 61] := by decide
  have t3 : tl Sg.eq.t = [61] := by decide
  have t4 : tl Sg.lt.t = [60] := by decide
  have t5 : tl Sg.gt.t = [62] := by decide
  have t6 : tl Sg.ca.t = [94] := by decide
  have t7 : tl Sg.ti.t = [126] := by decide
  simp only [SGS, firstOf, e, t1, t2, t3, t4, t5, t6, t7]
  generalize tl t = l
  match l with
  | [] => rfl
  | [c] =>
    simp only [pre, List.length_cons, List.length_nil, List.take_succ_cons, List.take_zero, List.take_nil]
    by_cases h1 : c = 61
    · subst h1; rfl
    · by_cases h2 : c = 60
      · subst h2; rfl
      · by_cases h3 : c = 62
        · subst h3; rfl
        · by_cases h4 : c = 94
          · subst h4; rfl
          · by_cases h5 : c = 126
            · subst h5; rfl
            · simp [h1, h2, h3, h4, h5, signOf]
  | c :: d :: r =>
    simp only [pre, List.length_cons, List.length_nil, List.take_succ_cons, List.take_zero]
    by_cases h1 : c = 61
    · subst h1; rfl
    · by_cases h2 : c = 60
      · subst h2
        by_cases hd : d = 61
        · subst hd; rfl
        · simp [hd, signOf]
      · by_cases h3 : c = 62
        · subst h3
          by_cases hd : d = 61
          · subst hd; rfl
          · simp [hd, signOf]
        · by_cases h4 : c = 94
          · subst h4; rfl
          · by_cases h5 : c = 126
            · subst h5; rfl
            · simp [h1, h2, h3, h4, h5, signOf]
theorem startsM (t : Str) (s : Sg) : Me.startswith (.str t) [.str s.t] = pure (.bl (Txt.startswith t s.t)) := rfl
theorem loopS {t : Str} {body : D → Unit → M (Fl Unit)} {X : Sg → D} : ∀ {ss : List Sg}, (∀ s ∈ ss, body (.str s.t) () = if Txt.startswith t s.t then pure (.rt (X s)) else pure (.nx ())) → forF body (ss.map fun s => D.str s.t) () = pure (match firstOf t ss with | some s => .rt (X s) | none => .nx ())
  | [], _ => rfl
  | s :: ss, h => by
    rw [List.map_cons]
    unfold forF
    rw [h s (by simp)]
    unfold firstOf
    by_cases c : Txt.startswith t s.t = true
    · rw [if_pos c, if_pos c]; rfl
    · rw [if_neg c, if_neg c]
      exact loopS fun y hy => h y (by simp [hy])
theorem cut_len (t : Str) (lo hi : Option Int) : (cutS t lo hi).length ≤ t.length := by
  rw [len_tl, len_tl]
  show (((tl t).drop _).take _).length ≤ _
  simp only [List.length_take, List.length_drop]
  omega
/-- what both make of the sign s -/
def signD (t : Str) (s : Sg) : D := bD ((threeO (cutS t (some (s.n : Int)) none)).map fun x => bnd s x.1 x.2.1 x.2.2)
theorem len_sg (s : Sg) : Bi.len [.str s.t] = pure (.int (s.n : Int)) := by cases s <;> rfl
theorem slc3v (a b c : Nat) : Op.slc (vD a b c []) none (some 3) = pure (n3 a b c) := rfl
theorem idx3v (a b c : Nat) (ws : List Wd) : Op.idx (vD a b c ws) (.int 3) = pure (.tup (ws.map Wd.d)) := idx_tup rfl
theorem isNon_vD (a b c : Nat) (ws : List Wd) : Op.isNon (vD a b c ws) = false := rfl
theorem eq_nilT0 : Op.eq (.tup []) (.tup []) = pure (.bl true) := by rw [DL.eq_of (by simp) (by simp)]; rfl
theorem ne_nilT0 : Op.ne (.tup []) (.tup []) = pure (.bl false) := by rw [DL.ne_of (by simp) (by simp)]; rfl
theorem bound_in {t : Str} (h : t.length ≤ 1000) : m_bound_in [.str t] = pure (bD (boundO t)) := by
  unfold m_bound_in c_ALL c_END
  simp only [pure_bind, eq_ss, truthB_bl, mk2t]
  unfold boundO
  by_cases ha : t == ("*" : Str)
  · rw [ha]; rfl
  · rw [show (t == ("*" : Str)) = false from by simpa using ha]
    simp only [Bool.false_eq_true, if_false]
    rw [show itemsOf c_SIGNS = pure (SGS.map fun s => D.str s.t) from rfl, pure_bind]
    rw [loopS (t := t) (X := signD t) (fun s _ => by
      simp only [isStr_str, pure_bind, startsM, truthB_bl, len_sg, asInt_int, slc_str (show t.length ≤ 16777216 by omega)]
      by_cases c : Txt.startswith t s.t = true
      · rw [if_pos c, if_pos c]
        have hr : (cutS t (some (s.n : Int)) none).length ≤ 1000 := Nat.le_trans (cut_len _ _ _) h
        rw [parts_in hr, pure_bind]
        unfold signD
        rcases partsD_three (cutS t (some (s.n : Int)) none) with ⟨a, b, c, e1, e2⟩ | ⟨e1, e2 | ⟨x, y, z, w, ws, e2, e3⟩⟩
        · rw [e1, e2]
          simp only [isNon_vD, Bool.not_false, if_true, idx3v, pure_bind, List.map_nil, mkT_nil, eq_nilT0, slc3v, bounds_of, truthB_bl]
          rfl
        · rw [e1, e2]; rfl
        · rw [e1, e2]
          simp only [isNon_tup, Bool.not_false, if_true, ix3t, pure_bind, mkT_nil, eq_nonil e3, truthB_bl, Bool.false_eq_true, if_false]
          rfl
      · rw [if_neg c, if_neg c]), pure_bind, first_sign]
    cases signOf (tl t) with
    | none => rfl
    | some s => rfl
end Pl

set_option maxRecDepth 100000
set_option autoImplicit false
set_option maxHeartbeats 1000000
/-! PS34: the law's bound. -/
namespace Pl
open PySem DL TL Mi L2 PySem.W
theorem tl_cut (t : Str) (k : Nat) : tl (cutS t none (some (k : Int))) = (tl t).take k := by
  show (((tl t).drop (HT.sIx _ 0 none)).take _) = _
  rw [HT.sIx_none, HT.sIx_nat, List.drop_zero, Nat.sub_zero]
  rw [len_tl t]
  by_cases h : k ≤ (tl t).length
  · rw [Nat.min_eq_left h]
  · rw [Nat.min_eq_right (by omega), List.take_of_length_le (by omega), List.take_of_length_le (by omega)]
theorem beq_tl (x y : Str) : (x == y) = (tl x == tl y) := by
  rw [Bool.eq_iff_iff, beq_iff_eq, beq_iff_eq]
  exact ⟨fun h => by rw [h], ext_tl⟩
theorem bq (a b : List Nat) : (a == b) = (b == a) := by
  rw [Bool.eq_iff_iff, beq_iff_eq, beq_iff_eq]
  exact ⟨Eq.symm, Eq.symm⟩
theorem isIn2L (x a b : Str) : Op.isIn (.str x) (.lst [.str a, .str b]) = pure (.bl (a == x || b == x)) := by
  have : Op.isIn0 (.str x) (.lst [.str a, .str b]) = some (a == x || b == x) := by
    show (if (D.lay 40 (.str x) && [D.str a, D.str b].all (D.lay 40)) = true then some ([D.str a, D.str b].any fun y => D.eqb y (.str x)) else none) = _
    rw [if_pos (by simp)]
    simp [D.eqb]
  unfold Op.isIn
  rw [this]
def in7 (x : Str) : Bool := ("<=" : Str) == x || (">=" : Str) == x || ("<" : Str) == x || (">" : Str) == x || ("=" : Str) == x || ("~" : Str) == x || ("^" : Str) == x
theorem notIn7 (x : Str) : Op.notIn (.str x) (.lst [.str ("<=" : Str), .str (">=" : Str), .str ("<" : Str), .str (">" : Str), .str ("=" : Str), .str ("~" : Str), .str ("^" : Str)]) = pure (.bl (!in7 x)) := by
  have : Op.isIn0 (.str x) (.lst [.str ("<=" : Str), .str (">=" : Str), .str ("<" : Str), .str (">" : Str), .str ("=" : Str), .str ("~" : Str), .str ("^" : Str)]) = some (in7 x) := by
    show (if (D.lay 40 (.str x) && [D.str ("<=" : Str), .str (">=" : Str), .str ("<" : Str), .str (">" : Str), .str ("=" : Str), .str ("~" : Str), .str ("^" : Str)].all (D.lay 40)) = true then some ([D.str ("<=" : Str), .str (">=" : Str), .str ("<" : Str), .str (">" : Str), .str ("=" : Str), .str ("~" : Str), .str ("^" : Str)].any fun y => D.eqb y (.str x)) else none) = _
    rw [if_pos (by simp)]
    simp [D.eqb, in7, Bool.or_assoc]
  unfold Op.notIn
  rw [this]
def lsign (t : Str) : Str := if (("<=" : Str) == cutS t none (some 2) || (">=" : Str) == cutS t none (some 2)) = true then cutS t none (some 2) else cutS t none (some 1)
theorem lsign_tl (t : Str) : tl (lsign t) = if ((tl t).take 2 == [60, 61] || (tl t).take 2 == [62, 61]) = true then (tl t).take 2 else (tl t).take 1 := by
  have c2 : tl (cutS t none (some 2)) = (tl t).take 2 := tl_cut t 2
  have c1 : tl (cutS t none (some 1)) = (tl t).take 1 := tl_cut t 1
  have e : (("<=" : Str) == cutS t none (some 2) || (">=" : Str) == cutS t none (some 2)) = ((tl t).take 2 == [60, 61] || (tl t).take 2 == [62, 61]) := by
    rw [beq_tl, beq_tl, c2, show tl ("<=" : Str) = [60, 61] from by decide, show tl (">=" : Str) = [62, 61] from by decide]
    rw [bq [60, 61], bq [62, 61]]
  unfold lsign
  rw [e]
  split
  · exact c2
  · exact c1
theorem lsign_ok (t : Str) : match signOf (tl t) with
    | some s => lsign t = s.t
    | none => in7 (lsign t) = false := by
  have h := lsign_tl t
  have t1 : tl Sg.le.t = [60, 61] := by decide
  have t2 : tl Sg.ge.t = [62, 61] := by decide
  have t3 : tl Sg.eq.t = [61] := by decide
  have t4 : tl Sg.lt.t = [60] := by decide
  have t5 : tl Sg.gt.t = [62] := by decide
  have t6 : tl Sg.ca.t = [94] := by decide
  have t7 : tl Sg.ti.t = [126] := by decide
  have i7 : in7 (lsign t) = (([60, 61] : List Nat) == tl (lsign t) || ([62, 61] : List Nat) == tl (lsign t) || ([60] : List Nat) == tl (lsign t) || ([62] : List Nat) == tl (lsign t) || ([61] : List Nat) == tl (lsign t) || ([126] : List Nat) == tl (lsign t) || ([94] : List Nat) == tl (lsign t)) := by
    unfold in7
    simp only [beq_tl, show tl ("<=" : Str) = [60, 61] from by decide, show tl (">=" : Str) = [62, 61] from by decide, show tl ("<" : Str) = [60] from by decide, show tl (">" : Str) = [62] from by decide, show tl ("=" : Str) = [61] from by decide, show tl ("~" : Str) = [126] from by decide, show tl ("^" : Str) = [94] from by decide]
  rw [i7]
  have key : ∀ (s : Sg), tl (lsign t) = tl s.t → lsign t = s.t := fun s h => ext_tl h
  revert h key
  generalize tl (lsign t) = m
  generalize tl t = l
  intro h key
  match l with
  | [] => subst h; rfl
  | [c] =>
    have h : m = [c] := by
      rw [h]
      simp
    subst h
    by_cases h1 : c = 61
    · subst h1; exact key .eq t3.symm
    · by_cases h2 : c = 60
      · subst h2; exact key .lt t4.symm
      · by_cases h3 : c = 62
        · subst h3; exact key .gt t5.symm
        · by_cases h4 : c = 94
          · subst h4; exact key .ca t6.symm
          · by_cases h5 : c = 126
            · subst h5; exact key .ti t7.symm
            · have g1 : ¬ 61 = c := fun z => h1 z.symm
              have g2 : ¬ 60 = c := fun z => h2 z.symm
              have g3 : ¬ 62 = c := fun z => h3 z.symm
              have g4 : ¬ 94 = c := fun z => h4 z.symm
              have g5 : ¬ 126 = c := fun z => h5 z.symm
              simp [h1, h2, h3, h4, h5, g1, g2, g3, g4, g5, signOf]
  | c :: d :: r =>
    simp only [List.take_succ_cons, List.take_zero] at h
    by_cases h1 : c = 61
    · subst h1; exact key .eq (h.trans t3.symm)
    · by_cases h2 : c = 60
      · subst h2
        by_cases hd : d = 61
        · subst hd; exact key .le (h.trans t1.symm)
        · rw [show signOf (60 :: d :: r) = some .lt from by simp [signOf, hd]]
          exact key .lt (by rw [h, t4]; simp [hd])
      · by_cases h3 : c = 62
        · subst h3
          by_cases hd : d = 61
          · subst hd; exact key .ge (h.trans t2.symm)
          · rw [show signOf (62 :: d :: r) = some .gt from by simp [signOf, hd]]
            exact key .gt (by rw [h, t5]; simp [hd])
        · by_cases h4 : c = 94
          · subst h4; exact key .ca (h.trans t6.symm)
          · by_cases h5 : c = 126
            · subst h5; exact key .ti (h.trans t7.symm)
            · have hm : m = [c] := by rw [h]; simp [h2, h3]
              subst hm
              have g1 : ¬ 61 = c := fun z => h1 z.symm
              have g2 : ¬ 60 = c := fun z => h2 z.symm
              have g3 : ¬ 62 = c := fun z => h3 z.symm
              have g4 : ¬ 94 = c := fun z => h4 z.symm
              have g5 : ¬ 126 = c := fun z => h5 z.symm
              simp [h1, h2, h3, h4, h5, g1, g2, g3, g4, g5, signOf]
end Pl

set_option maxRecDepth 100000
set_option autoImplicit false
set_option maxHeartbeats 1000000
/-! PT34: the law's bound is the program's. -/
namespace Pl
open PySem DL TL Mi L2 PySem.W
theorem mkL7 (a b c d e f g : D) : Op.mkL [a, b, c, d, e, f, g] = pure (.lst [a, b, c, d, e, f, g]) := rfl
theorem pow12 : Op.pow (.int 10) (.int 12) = pure (.int 1000000000000) := rfl
theorem gt_nat0 (a : Nat) : decide ((0 : Int) < (a : Int)) = decide (a ≠ 0) := decide_eq_decide.mpr (by omega)
theorem law_bound {t : Str} (h : t.length ≤ 1000) : m__law_bound [.str t] = pure (bD (boundO t)) := by
  unfold m__law_bound
  simp only [pure_bind, eq_ss, truthB_bl, pow12, asInt_int, slc_str (show t.length ≤ 16777216 by omega), mk2, isIn2L, mkL7]
  unfold boundO
  by_cases ha : t == ("*" : Str)
  · rw [ha]; rfl
  · rw [show (t == ("*" : Str)) = false from by simpa using ha]
    simp only [Bool.false_eq_true, if_false]
    have hs : (if (("<=" : Str) == cutS t none (some 2) || (">=" : Str) == cutS t none (some 2)) = true then (pure (D.str (cutS t none (some 2))) : M D) else pure (.str (cutS t none (some 1)))) = pure (.str (lsign t)) := by
      unfold lsign
      split <;> rfl
    rw [hs, pure_bind, notIn7, pure_bind, truthB_bl, pure_bind]
    have hl := lsign_ok t
    cases hso : signOf (tl t) with
    | none =>
      rw [hso] at hl
      rw [show in7 (lsign t) = false from hl]
      rfl
    | some s =>
      rw [hso] at hl
      have hl : lsign t = s.t := hl
      rw [hl, show in7 s.t = true from by cases s <;> decide]
      simp only [Bool.not_true, Bool.false_eq_true, if_false, len_sg, pure_bind, asInt_int]
      have hr : (cutS t (some (s.n : Int)) none).length ≤ 1000 := Nat.le_trans (cut_len _ _ _) h
      rw [law_parts hr, pure_bind]
      rcases partsD_three (cutS t (some (s.n : Int)) none) with ⟨a, b, c, e1, e2⟩ | ⟨e1, e2 | ⟨x, y, z, w, ws, e2, e3⟩⟩
      · rw [e1, e2]
        simp only [eq_ss, isNon_vD, Bool.false_eq_true, if_false, idx3v, pure_bind, List.map_nil, mkT_nil, ne_nilT0, truthB_bl, law_whole4, vD_0, vD_1, eq_ii, gtG_ii, mk2t, add_ii, nat_eq0, gt_nat0, show Op.mkT [.int (a : Int), .int (b : Int), .int 0] = pure (n3 a b 0) from rfl, show Op.mkT [.int (a : Int), .int 0, .int 0] = pure (n3 a 0 0) from rfl, law_whole3]
        cases s with
        | ti => rfl
        | ca =>
          simp only [show ((Sg.ca.t : Str) == ("~" : Str)) = false from by decide, show ((Sg.ca.t : Str) == ("^" : Str)) = true from by decide, Bool.false_eq_true, if_false, if_true, pure_bind]
          by_cases ha : a = 0
          · by_cases hb : b = 0
            · subst ha hb; rfl
            · simp [ha, hb, bnd, bD]
          · simp [ha, bnd, bD, mk2t]
        | _ => rfl
      · rw [e1, e2]; rfl
      · rw [e1, e2]
        simp only [isNon_tup, Bool.false_eq_true, if_false, ix3t, pure_bind, mkT_nil, ne_nonil e3, truthB_bl, if_true]
        rfl
end Pl

set_option maxRecDepth 100000
set_option autoImplicit false
set_option maxHeartbeats 1000000
/-! PU34: alternatives, rows, as the program and the law read them. -/
namespace Pl
open PySem DL TL Mi L2 PySem.W
abbrev sp : Str := ((" " : String) : Str)
abbrev bars : Str := ((" || " : String) : Str)
theorem spl_ne (S : List Nat) : ∀ (l : List Nat) (k : Nat) (acc : List Nat), spl S k acc l ≠ []
  | [], k, acc => by rw [spl_nil]; simp
  | c :: r, 0, acc => by
    by_cases h : pre S (c :: r) = true
    · rw [spl_hit h]; simp
    · rw [spl_miss (by simpa using h)]; exact spl_ne S r 0 _
  | c :: r, k + 1, acc => by
    show spl S k acc r ≠ []
    exact spl_ne S r k acc
theorem split_ne {x y : Str} (hy : tl y ≠ []) (hk : y.cps.all (· < 256) = true) : Txt.split x y ≠ [] := fun z => by
  have := split_spl x y hy (kind_ok hk)
  rw [z] at this
  exact spl_ne _ _ _ _ this.symm
theorem split_len {x y p : Str} (hy : (y.length == 0) = false) (h : p ∈ Txt.split x y) : p.length ≤ x.length := by
  have hy1 : 1 ≤ y.length := by
    have := (beq_eq_false_iff_ne).mp hy
    omega
  have w := PyProof.Rows.split_weight x y hy1
  have h1 : p.length ≤ ((Txt.split x y).map (·.length)).sum := le_sum (List.mem_map_of_mem h)
  have := List.length_pos_of_mem h
  omega
theorem split_cnt (x y : Str) (hy : (y.length == 0) = false) : (Txt.split x y).length ≤ x.length + 1 := by
  have this : 1 ≤ y.length := by
    have := (beq_eq_false_iff_ne).mp hy
    omega
  have w := PyProof.Rows.split_weight x y this
  have h2 : ((Txt.split x y).length - 1) * 1 ≤ ((Txt.split x y).length - 1) * y.length := Nat.mul_le_mul_left _ this
  omega
theorem splitM {t y : Str} (h : t.length ≤ 1000) (hy : (y.length == 0) = false) : Me.split (.str t) [.str y] = pure (.lst ((Txt.split t y).map D.str)) := by
  show (if decide ((y.length == 0) = false ∧ t.length + 2 ≤ 16777216) then (pure (.lst ((Txt.split t y).map D.str)) : M D) else M.bad) = _
  rw [if_pos (decide_eq_true ⟨hy, by omega⟩)]
def allO {α : Type} : List (Option α) → Option (List α)
  | [] => some []
  | none :: _ => none
  | some x :: r => (allO r).map (x :: ·)
theorem allO_some {α : Type} : ∀ {os : List (Option α)} {xs : List α}, allO os = some xs → os = xs.map some
  | [], xs, h => by cases h; rfl
  | none :: r, xs, h => by cases h
  | some x :: r, xs, h => by
    unfold allO at h
    cases e : allO r with
    | none => rw [e] at h; cases h
    | some ys => rw [e] at h; cases h; rw [allO_some e]; rfl
theorem allO_none {α : Type} : ∀ {os : List (Option α)}, allO os = none → none ∈ os
  | [], h => by cases h
  | none :: r, h => by simp
  | some x :: r, h => by
    unfold allO at h
    cases e : allO r with
    | none => exact List.mem_cons_of_mem _ (allO_none e)
    | some ys => rw [e] at h; cases h
theorem allO_of {α : Type} : ∀ (xs : List α), allO (xs.map some) = some xs
  | [] => rfl
  | x :: xs => by
    show (allO (xs.map some)).map (x :: ·) = _
    rw [allO_of xs]; rfl
abbrev R2 := Nat × Nat
def rowD (x : R2) : D := .tup [.int (x.1 : Int), .int (x.2 : Int)]
theorem bD_some (x : R2) : bD (some x) = rowD x := rfl
def maxN : List Nat → Nat
  | [] => 0
  | [x] => x
  | x :: r => Max.max x (maxN r)
def minN : List Nat → Nat
  | [] => 0
  | [x] => x
  | x :: r => Min.min x (minN r)
theorem maxI_nat : ∀ ns : List Nat, Bi.maxI (ns.map fun n : Nat => (n : Int)) = ((maxN ns : Nat) : Int)
  | [] => rfl
  | [x] => rfl
  | x :: y :: r => by
    show Max.max (x : Int) (Bi.maxI ((y :: r).map fun n : Nat => (n : Int))) = ((Max.max x (maxN (y :: r)) : Nat) : Int)
    rw [maxI_nat (y :: r)]
    omega
theorem minI_nat : ∀ ns : List Nat, Bi.minI (ns.map fun n : Nat => (n : Int)) = ((minN ns : Nat) : Int)
  | [] => rfl
  | [x] => rfl
  | x :: y :: r => by
    show Min.min (x : Int) (Bi.minI ((y :: r).map fun n : Nat => (n : Int))) = ((Min.min x (minN (y :: r)) : Nat) : Int)
    rw [minI_nat (y :: r)]
    omega
theorem max_nat {ns : List Nat} (h : ns ≠ []) : Bi.max [.lst (ns.map fun n : Nat => D.int (n : Int))] = pure (.int ((maxN ns : Nat) : Int)) := by
  have e : ns.map (fun n : Nat => D.int (n : Int)) = (ns.map fun n : Nat => (n : Int)).map D.int := by rw [List.map_map]; rfl
  rw [e]
  show Bi.opt (Bi.intsOf _) _ = _
  rw [Bi.ints_map]
  show (if decide (0 < (ns.map fun n : Nat => (n : Int)).length) = true then (pure (D.int (Bi.maxI _)) : M D) else M.bad) = _
  rw [if_pos (decide_eq_true (by rw [List.length_map]; exact List.length_pos_iff.mpr h)), maxI_nat]
theorem min_nat {ns : List Nat} (h : ns ≠ []) : Bi.min [.lst (ns.map fun n : Nat => D.int (n : Int))] = pure (.int ((minN ns : Nat) : Int)) := by
  have e : ns.map (fun n : Nat => D.int (n : Int)) = (ns.map fun n : Nat => (n : Int)).map D.int := by rw [List.map_map]; rfl
  rw [e]
  show Bi.opt (Bi.intsOf _) _ = _
  rw [Bi.ints_map]
  show (if decide (0 < (ns.map fun n : Nat => (n : Int)).length) = true then (pure (D.int (Bi.minI _)) : M D) else M.bad) = _
  rw [if_pos (decide_eq_true (by rw [List.length_map]; exact List.length_pos_iff.mpr h)), minI_nat]
theorem lay_bD (n : Nat) (o : Option R2) : D.lay (n + 1) (bD o) = true := by
  cases o with
  | none => rfl
  | some x => simp [bD]
/-- None in a list of bounds -/
theorem non_in (os : List (Option R2)) : Op.isIn .non (.lst (os.map bD)) = pure (.bl (os.any fun o => o.isNone)) := by
  have : Op.isIn0 .non (.lst (os.map bD)) = some (os.any fun o => o.isNone) := by
    show (if (D.lay 40 .non && (os.map bD).all (D.lay 40)) = true then some ((os.map bD).any fun y => D.eqb y .non) else none) = _
    rw [if_pos (by
      rw [List.all_map]
      simp only [lay_non, Bool.true_and]
      exact List.all_eq_true.mpr fun o _ => lay_bD 39 o)]
    congr 1
    rw [List.any_map]
    congr 1
    funext o
    cases o <;> simp [bD, D.eqb]
  unfold Op.isIn
  rw [this]
theorem any_none {α : Type} (os : List (Option α)) : (os.any fun o => o.isNone) = (allO os).isNone := by
  cases e : allO os with
  | none =>
    exact List.any_eq_true.mpr ⟨none, allO_none e, rfl⟩
  | some xs =>
    rw [allO_some e]
    rw [show (some xs).isNone = false from rfl, List.any_eq_false]
    intro o ho
    obtain ⟨x, _, rfl⟩ := List.mem_map.mp ho
    simp
def altO (p : Str) : Option R2 := match allO ((Txt.split p sp).map boundO) with
  | none => none
  | some xs => if 4 < xs.length then none else some (maxN (xs.map (·.1)), minN (xs.map (·.2)))
theorem un2row (x : R2) : un2 (rowD x) = pure (.int (x.1 : Int), .int (x.2 : Int)) := rfl
theorem alternative_in {p : Str} (h : p.length ≤ 1000) : m_alternative_in [.str p] = pure (bD (altO p)) := by
  unfold m_alternative_in c_MOST_BOUNDS
  have hc := split_cnt p sp (by decide)
  simp only [pure_bind, isStr_str, splitM h (y := sp) (by decide), items_lst, if_true]
  rw [show (Txt.split p (Str.ofString " ")) = Txt.split p sp from rfl] at *
  rw [comp_mapF (h := D.str) (g := fun w => bD (boundO w)) (fun w hw => by rw [bound_in (Nat.le_trans (split_len (by decide) hw) h)]; rfl) (by omega), pure_bind]
  have hm : (Txt.split p sp).map (fun w => bD (boundO w)) = ((Txt.split p sp).map boundO).map bD := by rw [List.map_map]; rfl
  rw [hm]
  simp only [len_lst, pure_bind, gtG_ii, truthB_bl, non_in, any_none]
  have hl : ((Txt.split p sp).map boundO).length = (Txt.split p sp).length := List.length_map _
  have hne : (Txt.split p sp).map boundO ≠ [] := by
    intro z
    exact split_ne (x := p) (y := sp) (by decide) (by decide +kernel) (List.map_eq_nil_iff.mp z)
  unfold altO
  generalize (Txt.split p sp).map boundO = os at hl hne
  have hcond : (if decide ((4 : Int) < ((os.map bD).length : Nat)) = true then (pure true : M Bool) else pure (allO os).isNone) = pure (decide (4 < os.length) || (allO os).isNone) := by
    rw [List.length_map]
    by_cases c : 4 < os.length
    · rw [if_pos (decide_eq_true (by omega)), decide_eq_true c]; rfl
    · rw [if_neg (by simp; omega), decide_eq_false c]; rfl
  rw [hcond, pure_bind]
  cases e : allO os with
  | none =>
    rw [show (decide (4 < os.length) || (none : Option (List R2)).isNone) = true from by simp]
    rfl
  | some xs =>
    have he := allO_some e
    subst he
    rw [List.length_map] at hl ⊢
    by_cases c : 4 < xs.length
    · rw [decide_eq_true c]
      simp only [Bool.true_or, if_true, c]
      rfl
    · rw [decide_eq_false c]
      simp only [Bool.false_or, Option.isNone_some, Bool.false_eq_true, if_false, c]
      rw [List.map_map, show xs.map (bD ∘ some) = xs.map rowD from rfl]
      have hx : xs ≠ [] := fun z => hne (by rw [z]; rfl)
      simp only [items_lst, pure_bind]
      rw [comp_mapF (xs := xs) (h := rowD) (g := fun x => D.int (x.1 : Int)) (fun x _ => by rw [un2row, pure_bind]) (by omega), comp_mapF (xs := xs) (h := rowD) (g := fun x => D.int (x.2 : Int)) (fun x _ => by rw [un2row, pure_bind]) (by omega)]
      have m1 : Bi.max [.lst (xs.map fun x => D.int (x.1 : Int))] = pure (.int ((maxN (xs.map (·.1)) : Nat) : Int)) := by
        have := max_nat (ns := xs.map (·.1)) (by simpa using hx)
        rw [List.map_map] at this
        exact this
      have m2 : Bi.min [.lst (xs.map fun x => D.int (x.2 : Int))] = pure (.int ((minN (xs.map (·.2)) : Nat) : Int)) := by
        have := min_nat (ns := xs.map (·.2)) (by simpa using hx)
        rw [List.map_map] at this
        exact this
      simp only [pure_bind, m1, m2]
      rfl
end Pl

set_option maxRecDepth 100000
set_option autoImplicit false
set_option maxHeartbeats 1000000
/-! PV34: rows; joined ones have the same numbers. -/
namespace Pl
open PySem DL TL Mi L2 PySem.W
/-- the rows of a text, one for each alternative -/
def rowsO (t : Str) : Option (List R2) := match allO ((Txt.split t bars).map altO) with
  | none => none
  | some xs => if 4 < xs.length then none else some xs
def inR (rs : List R2) (n : Nat) : Bool := rs.any fun x => decide (x.1 ≤ n) && decide (n < x.2)
/-! joined -/
def stepJ (acc : List R2) (x : R2) : List R2 := match acc.getLast? with
  | some y => if x.1 ≤ y.2 then acc.dropLast ++ [(y.1, Max.max y.2 x.2)] else acc ++ [x]
  | none => acc ++ [x]
theorem stepJ_le {pre : List R2} {y x : R2} (h : x.1 ≤ y.2) : stepJ (pre ++ [y]) x = pre ++ [(y.1, Max.max y.2 x.2)] := by
  unfold stepJ
  rw [show (pre ++ [y]).getLast? = some y from by simp]
  dsimp only
  rw [if_pos h, show (pre ++ [y]).dropLast = pre from by simp]
theorem stepJ_gt {pre : List R2} {y x : R2} (h : ¬ x.1 ≤ y.2) : stepJ (pre ++ [y]) x = (pre ++ [y]) ++ [x] := by
  unfold stepJ
  rw [show (pre ++ [y]).getLast? = some y from by simp]
  dsimp only
  rw [if_neg h]
abbrev leR : R2 → R2 → Bool := dataLe false fun x : R2 => D.toP (rowD x)
def joinN (rs : List R2) : List R2 := ((rs.filter fun x => decide (x.1 < x.2)).mergeSort leR).foldl stepJ []
theorem leR_le {x y : R2} (h : leR x y = true) : x.1 ≤ y.1 := by
  have e : leR x y = !decide ((y.1 : Int) < (x.1 : Int) ∨ ((y.1 : Int) = (x.1 : Int) ∧ (y.2 : Int) < (x.2 : Int))) := by
    show (!dataLt (.tuple [.int _, .int _]) (.tuple [.int _, .int _])) = _
    rw [dataLt_ii]
  rw [e] at h
  have : ¬ ((y.1 : Int) < (x.1 : Int) ∨ ((y.1 : Int) = (x.1 : Int) ∧ (y.2 : Int) < (x.2 : Int))) := by simpa only [Bool.not_eq_true', decide_eq_false_iff_not] using h
  omega
theorem inR_app (xs ys : List R2) (n : Nat) : inR (xs ++ ys) n = (inR xs n || inR ys n) := List.any_append
theorem inR_one (x : R2) (n : Nat) : inR [x] n = (decide (x.1 ≤ n) && decide (n < x.2)) := by simp [inR]
theorem joins : ∀ (rest acc : List R2) (n : Nat), rest.Pairwise (fun a b => a.1 ≤ b.1) → (∀ y ∈ acc.getLast?, ∀ x ∈ rest, y.1 ≤ x.1) → inR (rest.foldl stepJ acc) n = (inR acc n || inR rest n)
  | [], acc, n, _, _ => by simp [inR]
  | x :: rest, acc, n, hp, ha => by
    rw [List.foldl_cons]
    have hp2 := List.pairwise_cons.mp hp
    rcases List.eq_nil_or_concat acc with h | ⟨pre, y, h⟩
    · subst h
      have e : stepJ [] x = [x] := rfl
      rw [e, joins rest [x] n hp2.2 (fun y hy z hz => by
        have : y = x := by simpa using hy.symm
        subst this
        exact hp2.1 z hz)]
      simp [inR]
    · rw [List.concat_eq_append] at h
      subst h
      have hl : (pre ++ [y]).getLast? = some y := by simp
      have hd : (pre ++ [y]).dropLast = pre := by simp
      have hyx : y.1 ≤ x.1 := ha y (by rw [hl]; rfl) x (by simp)
      by_cases c : x.1 ≤ y.2
      · rw [stepJ_le c, joins rest (pre ++ [(y.1, Max.max y.2 x.2)]) n hp2.2 (fun z hz w hw => by
          have : z = (y.1, Max.max y.2 x.2) := by simpa using hz.symm
          subst this
          exact Nat.le_trans hyx (hp2.1 w hw))]
        rw [inR_app, inR_app, inR_one, inR_one, show inR (x :: rest) n = ((decide (x.1 ≤ n) && decide (n < x.2)) || inR rest n) from rfl]
        have : (decide (y.1 ≤ n) && decide (n < Max.max y.2 x.2)) = ((decide (y.1 ≤ n) && decide (n < y.2)) || (decide (x.1 ≤ n) && decide (n < x.2))) := by
          rw [Bool.eq_iff_iff]
          simp only [Bool.and_eq_true, Bool.or_eq_true, decide_eq_true_eq]
          omega
        show (inR pre n || (decide (y.1 ≤ n) && decide (n < Max.max y.2 x.2)) || inR rest n) = _
        rw [this]
        simp only [Bool.or_assoc]
      · rw [stepJ_gt c, joins rest ((pre ++ [y]) ++ [x]) n hp2.2 (fun z hz w hw => by
          have : z = x := by simpa using hz.symm
          subst this
          exact hp2.1 w hw)]
        rw [inR_app, inR_one, show inR (x :: rest) n = ((decide (x.1 ≤ n) && decide (n < x.2)) || inR rest n) from rfl]
        simp only [Bool.or_assoc]
theorem inR_perm {xs ys : List R2} (h : xs.Perm ys) (n : Nat) : inR xs n = inR ys n := by
  rw [Bool.eq_iff_iff]
  unfold inR
  rw [List.any_eq_true, List.any_eq_true]
  constructor
  · rintro ⟨x, hx, hc⟩; exact ⟨x, h.mem_iff.mp hx, hc⟩
  · rintro ⟨x, hx, hc⟩; exact ⟨x, h.mem_iff.mpr hx, hc⟩
theorem inR_filter (rs : List R2) (n : Nat) : inR (rs.filter fun x => decide (x.1 < x.2)) n = inR rs n := by
  rw [Bool.eq_iff_iff]
  unfold inR
  rw [List.any_eq_true, List.any_eq_true]
  constructor
  · rintro ⟨x, hx, hc⟩; exact ⟨x, (List.mem_filter.mp hx).1, hc⟩
  · rintro ⟨x, hx, hc⟩
    refine ⟨x, List.mem_filter.mpr ⟨hx, ?_⟩, hc⟩
    simp only [Bool.and_eq_true, decide_eq_true_eq] at hc ⊢
    omega
theorem inR_join (rs : List R2) (n : Nat) : inR (joinN rs) n = inR rs n := by
  unfold joinN
  have tt : TotalLe leR := sortLe_total _ _ _
  rw [joins _ [] n ((sort_pairwise tt _).imp fun h => leR_le h) (by simp)]
  rw [inR_perm (List.mergeSort_perm _ _), inR_filter]
  simp [inR]
theorem joinN_len (rs : List R2) : (joinN rs).length ≤ rs.length := by
  have h : ∀ (xs acc : List R2), (xs.foldl stepJ acc).length ≤ acc.length + xs.length := by
    intro xs
    induction xs with
    | nil => intro acc; simp
    | cons x xs ih =>
      intro acc
      rw [List.foldl_cons]
      refine Nat.le_trans (ih _) ?_
      have : (stepJ acc x).length ≤ acc.length + 1 := by
        unfold stepJ
        split
        · rename_i y hy
          split
          · rw [List.length_append, List.length_dropLast]; simp only [List.length_cons, List.length_nil]; omega
          · simp
        · simp
      simp only [List.length_cons]
      omega
  unfold joinN
  have h1 := h ((rs.filter fun x => decide (x.1 < x.2)).mergeSort leR) []
  rw [List.length_mergeSort] at h1
  have := List.length_filter_le (fun x : R2 => decide (x.1 < x.2)) rs
  simp only [List.length_nil, Nat.zero_add] at h1
  omega
/-! the mirrors -/
theorem row_0 (x : R2) : Op.idx (rowD x) (.int 0) = pure (.int (x.1 : Int)) := idx_tup rfl
theorem row_1 (x : R2) : Op.idx (rowD x) (.int 1) = pure (.int (x.2 : Int)) := idx_tup rfl
theorem nat_lt (a b : Nat) : decide ((a : Int) < (b : Int)) = decide (a < b) := decide_eq_decide.mpr (by omega)
theorem nat_le (a b : Nat) : decide ((a : Int) ≤ (b : Int)) = decide (a ≤ b) := decide_eq_decide.mpr (by omega)
theorem sortOk_rows (rs : List R2) : sortOk (rs.map rowD) = true := by
  unfold sortOk
  rw [Bool.and_eq_true, Bool.and_eq_true, Bool.or_eq_true]
  refine ⟨⟨?_, ?_⟩, .inl ?_⟩
  · rw [List.all_map]; exact List.all_eq_true.mpr fun v _ => lay_bD 39 (some v)
  · rw [List.all_map]
    refine List.all_eq_true.mpr fun v _ => ?_
    show (rs.map rowD).all _ = true
    rw [List.all_map]
    refine List.all_eq_true.mpr fun w _ => ?_
    show alike (.tuple [.int _, .int _]) (.tuple [.int _, .int _]) = true
    simp [alike, alikeAll]
  · rw [List.all_map]; exact List.all_eq_true.mpr fun v _ => rfl
theorem sortedQ_rows (rs : List R2) : Bi.sortedQ [.lst (rs.map rowD)] = pure (.lst ((rs.mergeSort leR).map rowD)) := by
  show (if sortOk (rs.map rowD) = true then (pure (D.lst (sortD (rs.map rowD))) : M D) else M.bad) = _
  rw [if_pos (sortOk_rows rs)]
  unfold sortD
  rw [← List.map_mergeSort (f := rowD) (r := leR) (s := dataLe false D.toP) (l := rs) fun a _ b _ => rfl]
theorem lay_rows (n : Nat) (rs : List R2) : (rs.map rowD).all (D.lay (n + 1)) = true := by
  rw [List.all_map]; exact List.all_eq_true.mpr fun v _ => lay_bD n (some v)
theorem ne_nilR (rs : List R2) : Op.ne (.lst (rs.map rowD)) (.lst []) = pure (.bl (!rs.isEmpty)) := by
  rw [nil_ne (lay_rows 38 rs)]
  cases rs <;> rfl
theorem ixN_last (pre : List R2) (y : R2) : L2.ixN ((pre ++ [y]).map rowD).length (-1) = some pre.length := by
  unfold L2.ixN
  rw [List.length_map, List.length_append]
  simp
  omega
theorem idx_last (pre : List R2) (y : R2) : Op.idx (.lst ((pre ++ [y]).map rowD)) (.int (-1)) = pure (rowD y) := by
  refine idx_lst ?_
  unfold L2.atI
  rw [ixN_last]
  simp
theorem place_last (pre : List R2) (y : R2) : Op.place ((pre ++ [y]).map rowD).length (.int (-1)) = pure pre.length := by
  unfold Op.place
  simp only [ixN_last]
theorem mk2r (x : R2) : Op.mkT [.int (x.1 : Int), .int (x.2 : Int)] = pure (rowD x) := rfl
theorem max2 (a b : Nat) : Bi.max [.int (a : Int), .int (b : Int)] = pure (.int ((Max.max b a : Nat) : Int)) := by
  show pure (D.int (if (b : Int) > (a : Int) then (b : Int) else (a : Int))) = _
  congr 2
  split <;> omega
theorem forN_rows {body : D → List D → M (List D)} (hb : ∀ (x : R2) (acc : List R2), acc.length ≤ 1000 → body (rowD x) (acc.map rowD) = pure ((stepJ acc x).map rowD)) : ∀ (xs acc : List R2), acc.length + xs.length ≤ 1000 → forN body (xs.map rowD) (acc.map rowD) = pure ((xs.foldl stepJ acc).map rowD)
  | [], acc, _ => rfl
  | x :: xs, acc, hl => by
    simp only [List.length_cons] at hl
    rw [List.map_cons]
    unfold forN
    rw [hb x acc (by omega), pure_bind, List.foldl_cons]
    refine forN_rows hb xs _ ?_
    have : (stepJ acc x).length ≤ acc.length + 1 := by
      unfold stepJ
      split
      · rename_i y hy
        split
        · rw [List.length_append, List.length_dropLast]; simp only [List.length_cons, List.length_nil]; omega
        · simp
      · simp
    omega
theorem joined_ {rs : List R2} (h : rs.length ≤ 900) : m_joined [.lst (rs.map rowD)] = pure (.lst ((joinN rs).map rowD)) := by
  unfold m_joined
  simp only [pure_bind, mkL_nil, lstK_lst, items_lst]
  rw [comp_filtF (xs := rs) (h := rowD) (p := fun x => decide (x.1 < x.2)) (fun x _ => by
    simp only [row_0, row_1, pure_bind, ltG_ii, truthB_bl, nat_lt]
    cases decide (x.1 < x.2) <;> rfl) (by omega)]
  simp only [pure_bind, sortedQ_rows, items_lst, neg1]
  have hl : ((rs.filter fun x => decide (x.1 < x.2)).mergeSort leR).length ≤ 900 := by
    rw [List.length_mergeSort]
    exact Nat.le_trans (List.length_filter_le _ _) h
  have hj : joinN rs = ((rs.filter fun x => decide (x.1 < x.2)).mergeSort leR).foldl stepJ [] := rfl
  rw [hj]
  generalize (rs.filter fun x => decide (x.1 < x.2)).mergeSort leR = ss at hl
  rw [show ([] : List D) = ([] : List R2).map rowD from rfl]
  rw [forN_rows (fun x acc hacc => by
    simp only [un2row, pure_bind, List.map_nil, ne_nilR, truthB_bl]
    rcases List.eq_nil_or_concat acc with e | ⟨pre, y, e⟩
    · subst e
      rfl
    · rw [List.concat_eq_append] at e
      subst e
      rw [show (pre ++ [y]).isEmpty = false from by cases pre <;> rfl]
      simp only [Bool.not_false, if_true, idx_last, pure_bind, row_0, row_1, leG_ii, truthB_bl, nat_le, max2, place_last]
      by_cases c : x.1 ≤ y.2
      · rw [decide_eq_true c, stepJ_le c]
        simp only [if_true]
        rw [show Op.mkT [D.int (y.1 : Int), .int ((Max.max y.2 x.2 : Nat) : Int)] = pure (rowD (y.1, Max.max y.2 x.2)) from rfl, pure_bind]
        rw [List.map_append, List.map_append, show [y].map rowD = [rowD y] from rfl]
        congr 1
        rw [List.set_append_right _ _ (by rw [List.length_map]; exact Nat.le_refl _), List.length_map, Nat.sub_self]
        rfl
      · rw [decide_eq_false c, stepJ_gt c]
        simp only [Bool.false_eq_true, if_false, mk2r, pure_bind]
        rw [if_pos (lenOk_of (by rw [List.length_map]; omega))]
        rw [List.map_append (l₁ := pre ++ [y])]
        rfl) ss [] (by simp; omega), pure_bind]
theorem any_bls {α : Type} (p : α → Bool) (xs : List α) : Bi.any [.lst (xs.map fun x => D.bl (p x))] = pure (.bl (xs.any p)) := by
  show Bi.opt (Bi.blsOf _) _ = _
  rw [blsOf_map]
  show pure (D.bl ((xs.map p).any id)) = _
  rw [List.any_map]; rfl
theorem has_number {rs : List R2} (h : rs.length ≤ 1000) (n : Nat) : m_has_number [.lst (rs.map rowD), .int (n : Int)] = pure (.bl (inR rs n)) := by
  unfold m_has_number
  simp only [pure_bind, items_lst]
  rw [comp_mapF (xs := rs) (h := rowD) (g := fun x => D.bl (decide (x.1 ≤ n) && decide (n < x.2))) (fun x _ => by
    simp only [un2row, pure_bind, leG_ii, ltG_ii, truthB_bl, nat_le, nat_lt, if_true]
    cases decide (x.1 ≤ n) <;> rfl) (by omega), pure_bind, pure_bind, any_bls]
  rfl
theorem filt_any {α β : Type} (p : α → Bool) (f : α → β) : ∀ l : List α, (!((l.filter p).map f).isEmpty) = l.any p
  | [] => rfl
  | r :: l => by
    cases hr : p r
    · rw [List.filter_cons, hr, List.any_cons, hr]
      exact filt_any p f l
    · rw [List.filter_cons, hr, List.any_cons, hr]; rfl
theorem law_in {rs : List R2} (h : rs.length ≤ 1000) (n : Nat) : m__law_in [.lst (rs.map rowD), .int (n : Int)] = pure (.bl (inR rs n)) := by
  unfold m__law_in
  simp only [pure_bind, items_lst, mkL_nil]
  have hc : comp (fun x12 => un2 x12 >>= fun b8 => (Op.leG b8.1 (.int (n : Int)) >>= fun r => truthB r >>= fun t => if t = true then Op.ltG (.int (n : Int)) b8.2 >>= truthB else pure false) >>= fun b => if b = true then pure (some (D.int 1)) else pure none) (rs.map rowD) = pure (.lst ((rs.filter fun x => decide (x.1 ≤ n) && decide (n < x.2)).map fun _ => D.int 1)) := by
    unfold comp finL
    have : ∀ ys : List R2, compM (fun x12 => un2 x12 >>= fun b8 => (Op.leG b8.1 (.int (n : Int)) >>= fun r => truthB r >>= fun t => if t = true then Op.ltG (.int (n : Int)) b8.2 >>= truthB else pure false) >>= fun b => if b = true then pure (some (D.int 1)) else pure none) (ys.map rowD) = pure ((ys.filter fun x => decide (x.1 ≤ n) && decide (n < x.2)).map fun _ => D.int 1) := by
      intro ys
      induction ys with
      | nil => rfl
      | cons y ys ih =>
        rw [List.map_cons]
        unfold compM
        rw [ih]
        simp only [un2row, pure_bind, leG_ii, ltG_ii, truthB_bl, nat_le, nat_lt]
        cases h1 : decide (y.1 ≤ n) <;> cases h2 : decide (n < y.2) <;> simp [h1, h2] <;> rfl
    rw [this rs, pure_bind, lenOk_of (by rw [List.length_map]; exact Nat.le_trans (List.length_filter_le _ _) (by omega))]
    rfl
  rw [hc, pure_bind]
  have hx : ((rs.filter fun x => decide (x.1 ≤ n) && decide (n < x.2)).map fun _ => D.int 1).all (D.lay 39) = true := by
    rw [List.all_map]; exact List.all_eq_true.mpr fun _ _ => rfl
  rw [nil_ne hx]
  congr 2
  exact filt_any _ _ rs
end Pl

set_option maxRecDepth 100000
set_option autoImplicit false
set_option maxHeartbeats 1000000
/-! PW34: the rows of a text, by the program and by the law. -/
namespace Pl
open PySem DL TL Mi L2 PySem.W
def rowsD : Option (List R2) → D
  | none => .non
  | some rs => .lst (rs.map rowD)
theorem alt_map (t : Str) : (Txt.split t bars).map (fun p => bD (altO p)) = ((Txt.split t bars).map altO).map bD := by rw [List.map_map]; rfl
theorem rows_in {t : Str} (h : t.length ≤ 800) : m_rows_in [.str t] = pure (rowsD ((rowsO t).map joinN)) := by
  unfold m_rows_in c_MOST_ALTERNATIVES
  have hc := split_cnt t bars (by decide)
  simp only [pure_bind, isiS, show isiTab "str" "str" = true from by decide, truthB_bl, Bool.not_true, Bool.false_eq_true, if_false, isStr_str, splitM (show t.length ≤ 1000 by omega) (y := bars) (by decide), items_lst, if_true]
  rw [show (Txt.split t (Str.ofString " || ")) = Txt.split t bars from rfl] at *
  rw [comp_mapF (h := D.str) (g := fun p => bD (altO p)) (fun p hp => by rw [alternative_in (by have := split_len (x := t) (y := bars) (by decide) hp; omega)]; rfl) (by omega), pure_bind, alt_map]
  simp only [len_lst, pure_bind, gtG_ii, truthB_bl, non_in, any_none]
  have hl : ((Txt.split t bars).map altO).length = (Txt.split t bars).length := List.length_map _
  unfold rowsO
  generalize (Txt.split t bars).map altO = os at hl
  have hcond : (if decide ((4 : Int) < ((os.map bD).length : Nat)) = true then (pure true : M Bool) else pure (allO os).isNone) = pure (decide (4 < os.length) || (allO os).isNone) := by
    rw [List.length_map]
    by_cases c : 4 < os.length
    · rw [if_pos (decide_eq_true (by omega)), decide_eq_true c]; rfl
    · rw [if_neg (by simp; omega), decide_eq_false c]; rfl
  rw [hcond, pure_bind]
  cases e : allO os with
  | none =>
    rw [show (decide (4 < os.length) || (none : Option (List R2)).isNone) = true from by simp]
    rfl
  | some xs =>
    have he := allO_some e
    subst he
    rw [List.length_map] at hl ⊢
    by_cases c : 4 < xs.length
    · rw [decide_eq_true c]
      simp only [Bool.true_or, if_true, c]
      rfl
    · rw [decide_eq_false c]
      simp only [Bool.false_or, Option.isNone_some, Bool.false_eq_true, if_false, c]
      rw [List.map_map, show xs.map (bD ∘ some) = xs.map rowD from rfl, joined_ (by omega)]
      rfl
def lbody (x32 : D) (t6 : List D) : M (Fl (List D)) := (fun d => pure d) x32 >>= fun b8 => ((((pure b8 >>= fun d => Me.isStr d >>= fun _ => (pure (D.str (" " : Str)) >>= fun x14 => pure [] >>= fun x14s => pure (x14 :: x14s)) >>= fun ds => Me.split d ds) >>= itemsOf) >>= comp fun x17 => (fun d => pure d) x17 >>= fun b15 => pure true >>= fun b => if b then ((pure b15 >>= fun x16 => pure [] >>= fun x16s => pure (x16 :: x16s)) >>= m__law_bound) >>= fun y => pure (some y) else pure none) >>= fun v13 => (((pure D.non >>= fun x18 => pure v13 >>= fun y19 => Op.isIn x18 y19 >>= truthB) >>= fun c => if c then pure true else (((pure v13 >>= fun x20 => pure [] >>= fun x20s => pure (x20 :: x20s)) >>= Bi.len) >>= fun x21 => pure (D.int 4) >>= fun y22 => Op.gtG x21 y22 >>= truthB)) >>= fun b => if b then (pure D.non >>= fun d => pure (Fl.rt d)) else (((((((pure v13 >>= itemsOf) >>= comp fun x26 => un2 x26 >>= fun b25 => pure true >>= fun b => if b then pure b25.1 >>= fun y => pure (some y) else pure none) >>= fun x24 => pure [] >>= fun x24s => pure (x24 :: x24s)) >>= Bi.max) >>= fun x23 => (((((pure v13 >>= itemsOf) >>= comp fun x30 => un2 x30 >>= fun b29 => pure true >>= fun b => if b then pure b29.2 >>= fun y => pure (some y) else pure none) >>= fun x28 => pure [] >>= fun x28s => pure (x28 :: x28s)) >>= Bi.min) >>= fun x27 => pure [] >>= fun x27s => pure (x27 :: x27s)) >>= fun x23s => pure (x23 :: x23s)) >>= Op.mkT) >>= fun v31 => if Op.lenOk (List.length t6 + 1) then pure (Fl.nx (t6 ++ [v31])) else M.bad)))
theorem lbody_ok {p : Str} (h : p.length ≤ 1000) (acc : List D) (ha : acc.length ≤ 1000) : lbody (.str p) acc = pure (match altO p with | some x => .nx (acc ++ [rowD x]) | none => .rt .non) := by
  unfold lbody
  have hc := split_cnt p sp (by decide)
  simp only [pure_bind, isStr_str, splitM h (y := sp) (by decide), items_lst, if_true]
  rw [show (Txt.split p (Str.ofString " ")) = Txt.split p sp from rfl] at *
  rw [comp_mapF (h := D.str) (g := fun w => bD (boundO w)) (fun w hw => by rw [law_bound (Nat.le_trans (split_len (by decide) hw) h)]; rfl) (by omega), pure_bind]
  have hm : (Txt.split p sp).map (fun w => bD (boundO w)) = ((Txt.split p sp).map boundO).map bD := by rw [List.map_map]; rfl
  rw [hm]
  simp only [len_lst, pure_bind, gtG_ii, truthB_bl, non_in, any_none]
  have hl : ((Txt.split p sp).map boundO).length = (Txt.split p sp).length := List.length_map _
  have hne : (Txt.split p sp).map boundO ≠ [] := by
    intro z
    exact split_ne (x := p) (y := sp) (by decide) (by decide +kernel) (List.map_eq_nil_iff.mp z)
  unfold altO
  generalize (Txt.split p sp).map boundO = os at hl hne
  cases e : allO os with
  | none => rfl
  | some xs =>
    have he := allO_some e
    subst he
    rw [List.length_map] at hl
    simp only [Option.isNone_some, Bool.false_eq_true, if_false, List.length_map]
    by_cases c : 4 < xs.length
    · rw [show decide ((4 : Int) < (xs.length : Nat)) = true from decide_eq_true (by omega), pure_bind, if_pos rfl, if_pos c]
    · rw [show decide ((4 : Int) < (xs.length : Nat)) = false from decide_eq_false (by omega), pure_bind, if_neg Bool.false_ne_true, if_neg c]
      rw [List.map_map, show xs.map (bD ∘ some) = xs.map rowD from rfl]
      have hx : xs ≠ [] := fun z => hne (by rw [z]; rfl)
      simp only [items_lst, pure_bind]
      rw [comp_mapF (xs := xs) (h := rowD) (g := fun x => D.int (x.1 : Int)) (fun x _ => by rw [un2row, pure_bind]) (by omega), comp_mapF (xs := xs) (h := rowD) (g := fun x => D.int (x.2 : Int)) (fun x _ => by rw [un2row, pure_bind]) (by omega)]
      have m1 : Bi.max [.lst (xs.map fun x => D.int (x.1 : Int))] = pure (.int ((maxN (xs.map (·.1)) : Nat) : Int)) := by
        have := max_nat (ns := xs.map (·.1)) (by simpa using hx)
        rw [List.map_map] at this
        exact this
      have m2 : Bi.min [.lst (xs.map fun x => D.int (x.2 : Int))] = pure (.int ((minN (xs.map (·.2)) : Nat) : Int)) := by
        have := min_nat (ns := xs.map (·.2)) (by simpa using hx)
        rw [List.map_map] at this
        exact this
      simp only [pure_bind, m1, m2, mk2t]
      rw [if_pos (lenOk_of (by omega))]
      rfl
theorem lloop : ∀ (ps : List Str) (acc : List R2), (∀ p ∈ ps, p.length ≤ 1000) → acc.length + ps.length ≤ 1000 → forF lbody (ps.map D.str) (acc.map rowD) = pure (match allO (ps.map altO) with | some xs => .nx ((acc ++ xs).map rowD) | none => .rt .non)
  | [], acc, _, _ => by
    show (pure (Fl.nx (acc.map rowD)) : M (Fl (List D))) = pure (Fl.nx ((acc ++ []).map rowD))
    rw [List.append_nil]
  | p :: ps, acc, hp, hl => by
    simp only [List.length_cons] at hl
    rw [List.map_cons]
    unfold forF
    rw [lbody_ok (hp p (by simp)) _ (by rw [List.length_map]; omega), pure_bind, List.map_cons]
    cases e : altO p with
    | none => rfl
    | some x =>
      have ih := lloop ps (acc ++ [x]) (fun q hq => hp q (by simp [hq])) (by simp; omega)
      rw [List.map_append] at ih
      show forF lbody (ps.map D.str) (acc.map rowD ++ [rowD x]) = _
      rw [show acc.map rowD ++ [rowD x] = acc.map rowD ++ [x].map rowD from rfl, ih]
      show _ = (pure (match (allO (ps.map altO)).map (x :: ·) with | some xs => Fl.nx ((acc ++ xs).map rowD) | none => Fl.rt D.non) : M (Fl (List D)))
      cases allO (ps.map altO) with
      | none => rfl
      | some xs =>
        show pure (Fl.nx (((acc ++ [x]) ++ xs).map rowD)) = pure (Fl.nx ((acc ++ (x :: xs)).map rowD))
        rw [List.append_assoc]
        rfl
theorem law_rows {t : Str} (h : t.length ≤ 800) : m__law_rows [.str t] = pure (rowsD (rowsO t)) := by
  unfold m__law_rows
  have hc := split_cnt t bars (by decide)
  simp only [pure_bind, isiS, show isiTab "str" "str" = true from by decide, truthB_bl, Bool.not_true, Bool.false_eq_true, if_false, isStr_str, splitM (show t.length ≤ 1000 by omega) (y := bars) (by decide), len_lst, List.length_map, gtG_ii, items_lst, mkL_nil, lstK_lst]
  have hlp : ∀ p ∈ Txt.split t bars, p.length ≤ 1000 := fun p hp => by have := split_len (x := t) (y := bars) (by decide) hp; omega
  have ll := lloop (Txt.split t bars) [] hlp (by simp; omega)
  unfold lbody at ll
  simp only [pure_bind, List.map_nil, List.nil_append] at ll
  unfold rowsO
  rw [show (Txt.split t (Str.ofString " || ")) = Txt.split t bars from rfl] at *
  have hlen : ∀ xs, allO ((Txt.split t bars).map altO) = some xs → xs.length = (Txt.split t bars).length := fun xs e => by
    have := congrArg List.length (allO_some e)
    rw [List.length_map, List.length_map] at this
    exact this.symm
  by_cases c : 4 < (Txt.split t bars).length
  · rw [show decide ((4 : Int) < ((Txt.split t bars).length : Nat)) = true from decide_eq_true (by omega)]
    simp only [if_true]
    cases e : allO ((Txt.split t bars).map altO) with
    | none => rfl
    | some xs => dsimp only; rw [if_pos (by rw [hlen xs e]; exact c)]; rfl
  · rw [show decide ((4 : Int) < ((Txt.split t bars).length : Nat)) = false from decide_eq_false (by omega)]
    simp only [Bool.false_eq_true, if_false]
    rw [ll, pure_bind]
    cases e : allO ((Txt.split t bars).map altO) with
    | none => rfl
    | some xs => dsimp only; rw [if_neg (by rw [hlen xs e]; exact c)]; rfl
end Pl

set_option maxRecDepth 100000
set_option autoImplicit false
set_option maxHeartbeats 1000000
/-! PX34: a drawn range reads. -/
namespace Pl
open PySem DL TL Mi L2 PySem.W
def v3 (a b c : Nat) : Str := textP a b c []
theorem v3_tl (a b c : Nat) : tl (v3 a b c) = numL a ++ [46] ++ numL b ++ [46] ++ numL c := by
  show tl (headT a b c) = _
  rw [head_eq]
  simp only [tl_append, tl_num, tl_dot]
theorem v3_free {s : Nat} (h : s < 46 ∨ 57 < s) (a b c : Nat) : s ∉ tl (v3 a b c) := by
  rw [v3_tl]
  have k := fun n => numL_free (n := n) (s := s) (by omega)
  simp only [List.mem_append, List.mem_singleton, k, false_or, or_false]
  omega
theorem v3_head (a b c : Nat) : ∃ d r, tl (v3 a b c) = d :: r ∧ 48 ≤ d ∧ d ≤ 57 := by
  rw [v3_tl]
  cases e : numL a with
  | nil => exact absurd e (numL_ne a)
  | cons d r =>
    have := numL_digits a d (by rw [e]; simp)
    exact ⟨d, _, rfl, this.1, this.2⟩
theorem three_v3 {a b c : Nat} (ha : a ≤ 9999) (hb : b ≤ 9999) (hc : c ≤ 9999) : threeO (v3 a b c) = some (a, b, c) := by
  obtain ⟨e1, e2⟩ := cut_text (a := a) (b := b) (c := c) (ws := []) (by simp)
  have e1 : cutN (v3 a b c) = [S a, S b, S c] := e1
  have e2 : cutW (v3 a b c) = [] := e2
  have hv : ∀ n : Nat, NumText.digitsVal (tl (S n)) = n := fun n => by rw [tl_num, numL_val]
  unfold threeO
  rw [e1, e2]
  have ok : okP [S a, S b, S c] [] = true := by
    unfold okP
    simp only [List.length_cons, List.length_nil, List.all_cons, List.all_nil, nums_ok a ha, nums_ok b hb, nums_ok c hc, Bool.and_true, decide_true]
    rfl
  rw [ok]
  simp only [List.isEmpty_nil, Bool.and_self, if_true, List.map_cons, List.map_nil, hv]
theorem cut_from (t : Str) (k : Nat) (h : k ≤ t.length) : tl (cutS t (some (k : Int)) none) = (tl t).drop k := by
  show (((tl t).drop (HT.sIx _ 0 (some (k : Int)))).take _) = _
  rw [HT.sIx_none, HT.sIx_nat, Nat.min_eq_left h, List.take_of_length_le]
  rw [List.length_drop, ← len_tl]
  omega
theorem sg_tl (s : Sg) : tl s.t = (match s with | .le => [60, 61] | .ge => [62, 61] | .eq => [61] | .lt => [60] | .gt => [62] | .ca => [94] | .ti => [126]) := by cases s <;> decide
theorem bound_v3 (s : Sg) {a b c : Nat} (ha : a ≤ 9999) (hb : b ≤ 9999) (hc : c ≤ 9999) : boundO (s.t ++ v3 a b c) = some (bnd s a b c) := by
  obtain ⟨d, r, e, h1, h2⟩ := v3_head a b c
  have et : tl (s.t ++ v3 a b c) = tl s.t ++ d :: r := by rw [tl_append, e]
  unfold boundO
  have hstar : (s.t ++ v3 a b c == ("*" : Str)) = false := by
    rw [beq_tl, et, sg_tl, show tl ("*" : Str) = [42] from by decide]
    cases s <;> simp
  rw [hstar]
  have hs : signOf (tl (s.t ++ v3 a b c)) = some s := by
    rw [et, sg_tl]
    have hd : d ≠ 61 := by omega
    cases s <;> simp [signOf, hd]
  rw [hs]
  have hcut : cutS (s.t ++ v3 a b c) (some (s.n : Int)) none = v3 a b c := by
    apply ext_tl
    rw [cut_from _ _ (by rw [Str.length_append, sg_len']; omega), tl_append, ← sg_len' s, len_tl, List.drop_left]
  simp only [Bool.false_eq_true, if_false, hcut, three_v3 ha hb hc]
  rfl
theorem bound_star : boundO ("*" : Str) = some (0, END) := by
  unfold boundO
  rw [show (("*" : Str) == ("*" : Str)) = true from by decide]
  rfl
/-- a word of a range -/
structure Wg (w : Str) : Prop where
  b : (boundO w).isSome = true
  s : 32 ∉ tl w
  v : 124 ∉ tl w
  l : w.length ≤ 30
theorem wg_star : Wg ("*" : Str) := ⟨by rw [bound_star]; rfl, by decide, by decide, by decide⟩
theorem v3_len {a b c : Nat} (ha : a ≤ 9999) (hb : b ≤ 9999) (hc : c ≤ 9999) : (v3 a b c).length ≤ 21 := head_le (by omega) (by omega) (by omega)
theorem wg_sign (s : Sg) {a b c : Nat} (ha : a ≤ 9999) (hb : b ≤ 9999) (hc : c ≤ 9999) : Wg (s.t ++ v3 a b c) := by
  refine ⟨by rw [bound_v3 s ha hb hc]; rfl, ?_, ?_, ?_⟩
  · rw [tl_append, List.mem_append, not_or]
    exact ⟨by cases s <;> decide, v3_free (by omega) a b c⟩
  · rw [tl_append, List.mem_append, not_or]
    exact ⟨by cases s <;> decide, v3_free (by omega) a b c⟩
  · have := v3_len ha hb hc
    rw [Str.length_append, sg_len']
    have : s.n ≤ 2 := by cases s <;> decide
    omega
theorem joinL_free {s : Nat} {S : List Nat} (hs : s ∉ S) : ∀ {ps : List (List Nat)}, (∀ p ∈ ps, s ∉ p) → s ∉ joinL S ps
  | [], _ => by simp [joinL]
  | [p], h => h p (by simp)
  | p :: q :: r, h => by
    show s ∉ p ++ (S ++ joinL S (q :: r))
    have := joinL_free hs (ps := q :: r) fun z hz => h z (List.mem_cons_of_mem _ hz)
    simp only [List.mem_append, not_or]
    exact ⟨h p (by simp), hs, this⟩
theorem allO_isSome {α : Type} : ∀ {os : List (Option α)}, (∀ o ∈ os, o.isSome = true) → ∃ xs, allO os = some xs ∧ xs.length = os.length
  | [], _ => ⟨[], rfl, rfl⟩
  | none :: r, h => by have := h none (by simp); cases this
  | some x :: r, h => by
    obtain ⟨xs, e, l⟩ := allO_isSome (os := r) fun o ho => h o (List.mem_cons_of_mem _ ho)
    exact ⟨x :: xs, by show (allO r).map (x :: ·) = _; rw [e]; rfl, by simp [l]⟩
theorem join_le {y : Str} {xs : List Str} {m : Nat} (h : ∀ x ∈ xs, x.length ≤ m) : (Str.join y xs).length ≤ xs.length * (m + y.length) := by
  have h1 := join_len y xs
  have h2 := sum_le h
  rw [Nat.mul_add]
  omega
/-- an alternative of a range -/
structure Pg (p : Str) : Prop where
  a : (altO p).isSome = true
  v : 124 ∉ tl p
  l : p.length ≤ 130
theorem pg_of {ws : List Str} (hw : ∀ w ∈ ws, Wg w) (h1 : ws ≠ []) (h2 : ws.length ≤ 4) : Pg (Str.join sp ws) := by
  refine ⟨?_, ?_, ?_⟩
  · unfold altO
    have hs : Txt.split (Str.join sp ws) sp = ws := by
      have := split_join (y := sp) (s := 32) (S := []) (by decide) (by decide +kernel) h1 (fun p hp => (hw p hp).s)
      rw [join_eq] at this
      exact this
    rw [hs]
    obtain ⟨xs, e, l⟩ := allO_isSome (os := ws.map boundO) (fun o ho => by
      obtain ⟨w, hw', rfl⟩ := List.mem_map.mp ho
      exact (hw w hw').b)
    rw [e]
    rw [List.length_map] at l
    dsimp only
    rw [if_neg (by omega)]
    rfl
  · rw [tl_join]
    exact joinL_free (by decide) fun p hp => by
      obtain ⟨w, hw', rfl⟩ := List.mem_map.mp hp
      exact (hw w hw').v
  · have := join_le (y := sp) fun w hw' => (hw w hw').l
    have hsp : sp.length = 1 := by decide
    rw [hsp] at this
    have : ws.length * (30 + 1) ≤ 4 * 31 := Nat.mul_le_mul_right _ h2
    omega
theorem pre_bars {p : List Nat} (h : 124 ∉ p) (q : List Nat) (hq : q = [] ∨ ∃ r, q = 32 :: r) : ∀ i, i < p.length → pre [32, 124, 124, 32] ((p ++ q).drop i) = false := by
  intro i hi
  cases e : pre [32, 124, 124, 32] ((p ++ q).drop i) with
  | false => rfl
  | true =>
    exfalso
    have e2 : ((p ++ q).drop i).take 4 = [32, 124, 124, 32] := by
      unfold pre at e
      exact beq_iff_eq.mp e
    have e3 : (((p ++ q).drop i).take 4)[1]? = some 124 := by rw [e2]; rfl
    rw [List.getElem?_take_of_lt (by omega), List.getElem?_drop] at e3
    by_cases c : i + 1 < p.length
    · rw [List.getElem?_append_left c] at e3
      exact h (List.mem_of_getElem? e3)
    · rw [List.getElem?_append_right (by omega)] at e3
      have : i + 1 - p.length = 0 := by omega
      rw [this] at e3
      rcases hq with rfl | ⟨r, rfl⟩
      · cases e3
      · simp at e3
theorem spl_bars : ∀ {parts : List (List Nat)}, parts ≠ [] → (∀ p ∈ parts, 124 ∉ p) → spl [32, 124, 124, 32] 0 [] (joinL [32, 124, 124, 32] parts) = parts
  | [], h, _ => absurd rfl h
  | [p], _, hp => by
    show spl [32, 124, 124, 32] 0 [] p = [p]
    have := pre_bars (hp p (by simp)) [] (.inl rfl)
    rw [List.append_nil] at this
    rw [spl_last this, List.nil_append]
  | p :: q :: r, _, hp => by
    show spl [32, 124, 124, 32] 0 [] (p ++ ([32, 124, 124, 32] ++ joinL [32, 124, 124, 32] (q :: r))) = p :: q :: r
    rw [spl_part (by simp) (pre_bars (hp p (by simp)) _ (.inr ⟨_, rfl⟩)), List.nil_append, spl_bars (by simp) fun z hz => hp z (List.mem_cons_of_mem _ hz)]
theorem bars_tl : tl bars = [32, 124, 124, 32] := by decide
/-- a range -/
theorem rg_of {ps : List Str} (hp : ∀ p ∈ ps, Pg p) (h1 : ps ≠ []) (h2 : ps.length ≤ 4) : (rowsO (Str.join bars ps)).isSome = true ∧ (Str.join bars ps).length ≤ 600 := by
  refine ⟨?_, ?_⟩
  · unfold rowsO
    have hs : Txt.split (Str.join bars ps) bars = ps := by
      refine map_tl_inj ?_
      rw [split_spl _ bars (by decide) (kind_ok (by decide +kernel)), tl_join, bars_tl]
      refine spl_bars (fun e => h1 (List.map_eq_nil_iff.mp e)) fun p hp' => ?_
      obtain ⟨w, hw', rfl⟩ := List.mem_map.mp hp'
      exact (hp w hw').v
    rw [hs]
    obtain ⟨xs, e, l⟩ := allO_isSome (os := ps.map altO) (fun o ho => by
      obtain ⟨w, hw', rfl⟩ := List.mem_map.mp ho
      exact (hp w hw').a)
    rw [e]
    rw [List.length_map] at l
    dsimp only
    rw [if_neg (by omega)]
    rfl
  · have := join_le (y := bars) fun w hw' => (hp w hw').l
    have hsp : bars.length = 4 := by decide
    rw [hsp] at this
    have : ps.length * (130 + 4) ≤ 4 * 134 := Nat.mul_le_mul_right _ h2
    omega
end Pl

set_option maxRecDepth 100000
set_option autoImplicit false
set_option maxHeartbeats 2000000
/-! PY34: what is drawn. -/
namespace Pl
open PySem DL TL Mi L2 PySem.W
theorem forN_box {n k Mx : Nat} {P : Str → Prop} {body : D → List D → M (List D)} (hb : ∀ (x : D) (ws : List Str) (s : Sto) (N : Nat), Box n N s → N ≤ Mx → ws.length ≤ 900 → ∃ (w : Str) (s' : Sto), body x (ws.map D.str) s = .ok ((ws ++ [w]).map D.str) s' ∧ P w ∧ Box n (N + k) s') :
    ∀ (xs : List D) (ws : List Str) (s : Sto) (N : Nat), Box n N s → N + k * xs.length ≤ Mx → ws.length + xs.length ≤ 900 → ∃ (vs : List Str) (s' : Sto), forN body xs (ws.map D.str) s = .ok ((ws ++ vs).map D.str) s' ∧ vs.length = xs.length ∧ (∀ w ∈ vs, P w) ∧ Box n (N + k * xs.length) s'
  | [], ws, s, N, b, _, _ => ⟨[], s, by rw [List.append_nil]; rfl, rfl, by simp, b⟩
  | x :: xs, ws, s, N, b, hN, hl => by
    simp only [List.length_cons] at hN hl ⊢
    have hk : k * (xs.length + 1) = k * xs.length + k := Nat.mul_succ _ _
    obtain ⟨w, s1, e1, p1, b1⟩ := hb x ws s N b (by omega) (by omega)
    obtain ⟨vs, s2, e2, l2, p2, b2⟩ := forN_box hb xs (ws ++ [w]) s1 (N + k) b1 (by omega) (by simp; omega)
    refine ⟨w :: vs, s2, ?_, by simp [l2], ?_, b2.mono (by omega)⟩
    · unfold forN
      rw [bind_ok e1, e2, List.append_assoc]
      rfl
    · intro z hz
      rcases List.mem_cons.mp hz with q | q
      · exact q ▸ p1
      · exact p2 z q
theorem forN_then {n k Mx : Nat} {P : Str → Prop} {body : D → List D → M (List D)} {xs : List D} {kk : List D → M D} {s : Sto} {N : Nat} {Q : Str → Sto → Prop}
    (hb : ∀ (x : D) (ws : List Str) (s : Sto) (N : Nat), Box n N s → N ≤ Mx → ws.length ≤ 900 → ∃ (w : Str) (s' : Sto), body x (ws.map D.str) s = .ok (ws.map D.str ++ [D.str w]) s' ∧ P w ∧ Box n (N + k) s')
    (b : Box n N s) (hN : N + k * xs.length ≤ Mx) (hl : xs.length ≤ 900)
    (hk : ∀ (vs : List Str) (s' : Sto), vs.length = xs.length → (∀ w ∈ vs, P w) → Box n (N + k * xs.length) s' → ∃ (t : Str) (s'' : Sto), kk (vs.map D.str) s' = .ok (.str t) s'' ∧ Q t s'') :
    ∃ (t : Str) (s'' : Sto), (forN body xs [] >>= kk) s = .ok (.str t) s'' ∧ Q t s'' := by
  obtain ⟨vs, s1, e1, l1, p1, b1⟩ := forN_box (n := n) (k := k) (Mx := Mx) (P := P) (body := body) (fun x ws s N b hN hl => by
    obtain ⟨w, s', e, p, b'⟩ := hb x ws s N b hN hl
    exact ⟨w, s', by rw [e, List.map_append]; rfl, p, b'⟩) xs [] s N b hN (by simpa using hl)
  rw [List.map_nil] at e1
  rw [bind_ok e1, List.nil_append]
  exact hk vs s1 l1 p1 b1
theorem forN_thenW {n k Mx : Nat} {P : Str → Prop} {body : D → List D → M (List D)} {xs : List D} {kk : List D → M (List D)} {s : Sto} {N : Nat} {c : List D} {Q : Str → Sto → Prop}
    (hb : ∀ (x : D) (ws : List Str) (s : Sto) (N : Nat), Box n N s → N ≤ Mx → ws.length ≤ 900 → ∃ (w : Str) (s' : Sto), body x (ws.map D.str) s = .ok (ws.map D.str ++ [D.str w]) s' ∧ P w ∧ Box n (N + k) s')
    (b : Box n N s) (hN : N + k * xs.length ≤ Mx) (hl : xs.length ≤ 900)
    (hk : ∀ (vs : List Str) (s' : Sto), vs.length = xs.length → (∀ w ∈ vs, P w) → Box n (N + k * xs.length) s' → ∃ (t : Str) (s'' : Sto), kk (vs.map D.str) s' = .ok (c ++ [D.str t]) s'' ∧ Q t s'') :
    ∃ (t : Str) (s'' : Sto), (forN body xs [] >>= kk) s = .ok (c ++ [D.str t]) s'' ∧ Q t s'' := by
  obtain ⟨vs, s1, e1, l1, p1, b1⟩ := forN_box (n := n) (k := k) (Mx := Mx) (P := P) (body := body) (fun x ws s N b hN hl => by
    obtain ⟨w, s', e, p, b'⟩ := hb x ws s N b hN hl
    exact ⟨w, s', by rw [e, List.map_append]; rfl, p, b'⟩) xs [] s N b hN (by simpa using hl)
  rw [List.map_nil] at e1
  rw [bind_ok e1, List.nil_append]
  exact hk vs s1 l1 p1 b1
theorem mk3nn (a b c : Nat) : Op.mkT [.int (a : Int), .int (b : Int), .int (c : Int)] = pure (n3 a b c) := rfl
theorem base {n N : Nat} {s : Sto} (hb : Box n N s) (hN : N ≤ 800000) : ∃ (a b c : Nat) (s' : Sto), m__law_base [.ref n] s = .ok (n3 a b c) s' ∧ a ≤ 9999 ∧ b ≤ 9999 ∧ c ≤ 9999 ∧ Box n (N + 10) s' := by
  unfold m__law_base
  simp only [pure_bind, bind_assoc]
  obtain ⟨i, s1, e1, l1, b1⟩ := take (many := 6) hb (by omega) (by omega)
  rw [bind_ok e1, ltG_ii, pure_bind, truthB_bl, pure_bind]
  by_cases c : (i : Int) < 4
  · rw [if_pos (decide_eq_true c)]
    obtain ⟨x, s2, e2, l2, b2⟩ := take (many := 3) b1 (by omega) (by omega)
    obtain ⟨y, s3, e3, l3, b3⟩ := take (many := 3) b2 (by omega) (by omega)
    obtain ⟨z, s4, e4, l4, b4⟩ := take (many := 4) b3 (by omega) (by omega)
    rw [bind_ok e2, bind_ok e3, bind_ok e4]
    exact ⟨x, y, z, s4, rfl, by omega, by omega, by omega, b4.mono (by omega)⟩
  · rw [if_neg (by simpa using c)]
    obtain ⟨x, s2, e2, l2, b2⟩ := number b1 (by omega)
    obtain ⟨y, s3, e3, l3, b3⟩ := number b2 (by omega)
    obtain ⟨z, s4, e4, l4, b4⟩ := number b3 (by omega)
    rw [bind_ok e2, bind_ok e3, bind_ok e4]
    exact ⟨x, y, z, s4, rfl, l2, l3, l4, b4.mono (by omega)⟩
theorem law_v3 {a b c : Nat} (ha : a ≤ 9999) (hb : b ≤ 9999) (hc : c ≤ 9999) : m__law_text [.tup [.int (a : Int), .int (b : Int), .int (c : Int), .tup []]] = pure (.str (v3 a b c)) :=
  law_text (ws := []) (by omega) (by omega) (by omega) (by simp) (by simp)
def wsigns : List (Option Sg) := [some .eq, some .lt, some .le, some .gt, some .ge, some .ti, some .ca, some .ca, none]
def wsT : Option Sg → Str
  | some s => s.t
  | none => ("*" : Str)
theorem mkSigns : Op.mkL [D.str ("=" : Str), .str ("<" : Str), .str ("<=" : Str), .str (">" : Str), .str (">=" : Str), .str ("~" : Str), .str ("^" : Str), .str ("^" : Str), .str ("*" : Str)] = pure (.lst (wsigns.map fun s => D.str (wsT s))) := rfl
theorem mk4t (x y z w : D) : Op.mkT [x, y, z, w] = pure (.tup [x, y, z, w]) := rfl
theorem word {n N : Nat} {s : Sto} (hb : Box n N s) (hN : N ≤ 700000) (t17 : List D) (ht : t17.length ≤ 1000) : ∃ (w : Str) (s' : Sto), (m__law_take [.ref n, .int 9] >>= fun y58 => Op.idx (.lst (wsigns.map fun s => D.str (wsT s))) y58 >>= fun v45 => m__law_base [.ref n] >>= fun x71 => un3 x71 >>= fun b60 => (Op.eq v45 (.str ("*" : Str)) >>= fun x => truthB x >>= fun t => if t = true then pure (D.str ("*" : Str)) else Op.mkT [] >>= fun x67 => Op.mkT [b60.1, b60.2.1, b60.2.2, x67] >>= fun x63 => m__law_text [x63] >>= fun y69 => Op.add v45 y69) >>= fun v70 => if Op.lenOk (t17.length + 1) = true then pure (t17 ++ [v70]) else M.bad) s = .ok (t17 ++ [.str w]) s' ∧ Wg w ∧ Box n (N + 11) s' := by
  obtain ⟨i, s1, e1, l1, b1⟩ := take (many := 9) hb (by omega) (by omega)
  rw [bind_ok e1, idx_nat (show i < (wsigns.map fun s => D.str (wsT s)).length by rw [List.length_map]; show i < 9; omega), pure_bind, List.getElem_map]
  obtain ⟨a, b, c, s2, e2, ha, hb', hc, b2⟩ := base b1 (by omega)
  rw [bind_ok e2, un3n, pure_bind, eq_ss, pure_bind, truthB_bl, pure_bind]
  generalize wsigns[i]'(show i < 9 by omega) = o
  cases o with
  | none =>
    rw [show (wsT none == ("*" : Str)) = true from by decide]
    exact ⟨("*" : Str), s2, by rw [if_pos rfl, pure_bind, if_pos (lenOk_of (by omega))]; rfl, wg_star, b2.mono (by omega)⟩
  | some g =>
    rw [show (wsT (some g) == ("*" : Str)) = false from by cases g <;> decide]
    refine ⟨g.t ++ v3 a b c, s2, ?_, wg_sign g ha hb' hc, b2.mono (by omega)⟩
    rw [if_neg Bool.false_ne_true, mkT_nil, pure_bind, mk4t, pure_bind, law_v3 ha hb' hc, pure_bind]
    rw [show Op.add (.str (wsT (some g))) (.str (v3 a b c)) = pure (.str (g.t ++ v3 a b c)) from add_ss (by
      have := v3_len ha hb' hc
      have h1 : (wsT (some g)).length = g.n := sg_len' g
      have h2 : g.n ≤ 2 := by cases g <;> decide
      omega), pure_bind, if_pos (lenOk_of (by omega))]
    rfl
theorem joinM {y : Str} {ws : List Str} {m : Nat} (h : ∀ w ∈ ws, w.length ≤ m) (hl : ws.length * (m + y.length) ≤ 16000000) : Me.join (.str y) [.lst (ws.map D.str)] = pure (.str (Str.join y ws)) := by
  refine join_strs ?_
  have := sum_le h
  rw [Nat.mul_add] at hl
  omega
theorem forF_ext {x y : D} (h : x = y) : x = y := h
theorem rng1_add (k : Nat) (h : k ≤ 100) : Op.add (.int 1) (.int (k : Int)) = pure (.int ((k + 1 : Nat) : Int)) := by
  rw [add_ii]
  congr 2
  omega
def cnt5 : List Nat := [0, 0, 1, 2, 3]
def cnt6 : List Nat := [0, 0, 1, 1, 2, 3]
theorem mkC5 : Op.mkL [D.int 0, .int 0, .int 1, .int 2, .int 3] = pure (.lst (cnt5.map fun k : Nat => D.int (k : Int))) := rfl
theorem mkC6 : Op.mkL [D.int 0, .int 0, .int 1, .int 1, .int 2, .int 3] = pure (.lst (cnt6.map fun k : Nat => D.int (k : Int))) := rfl
theorem cnt5_le : ∀ k ∈ cnt5, k ≤ 3 := by decide
theorem cnt6_le : ∀ k ∈ cnt6, k ≤ 3 := by decide
theorem range_ {n N : Nat} {s : Sto} (hb : Box n N s) (hN : N ≤ 1000) : ∃ (t : Str) (s' : Sto), m__law_range [.ref n] s = .ok (.str t) s' ∧ (rowsO t).isSome = true ∧ t.length ≤ 600 ∧ Box n (N + 1000) s' := by
  unfold m__law_range
  simp only [pure_bind, bind_assoc, mkL_nil, lstK_lst, mkC5, mkC6, mkSigns, isStr_str]
  obtain ⟨i, s1, e1, l1, b1⟩ := take (many := 5) hb (by omega) (by omega)
  rw [bind_ok e1, idx_nat (show i < (cnt5.map fun k : Nat => D.int (k : Int)).length by rw [List.length_map]; show i < 5; omega), pure_bind, List.getElem_map]
  have hk := cnt5_le _ (List.getElem_mem (show i < cnt5.length from (by omega : i < 5)))
  generalize cnt5[i]'(show i < 5 by omega) = k at hk
  rw [rng1_add k (by omega), pure_bind, rng_n (by omega), pure_bind]
  have lk : ((List.range (k + 1)).map fun i => D.int (0 + (i : Nat))).length = k + 1 := by rw [List.length_map, List.length_range]
  refine forN_then (n := n) (k := 60) (Mx := 10000) (P := Pg) ?_ b1 (by rw [lk]; omega) (by rw [lk]; omega) ?_
  · intro x ws s N b hN hl
    obtain ⟨j, s2, e2, l2, b2⟩ := take (many := 6) b (by omega) (by omega)
    rw [bind_ok e2, idx_nat (show j < (cnt6.map fun k : Nat => D.int (k : Int)).length by rw [List.length_map]; show j < 6; omega), pure_bind, List.getElem_map]
    have hj := cnt6_le _ (List.getElem_mem (show j < cnt6.length from (by omega : j < 6)))
    generalize cnt6[j]'(show j < 6 by omega) = q at hj
    rw [rng1_add q (by omega), pure_bind, rng_n (by omega), pure_bind]
    have lq : ((List.range (q + 1)).map fun i => D.int (0 + (i : Nat))).length = q + 1 := by rw [List.length_map, List.length_range]
    refine forN_thenW (n := n) (k := 11) (Mx := 20000) (P := Wg) (N := N + 1) ?_ b2 (by rw [lq]; omega) (by rw [lq]; omega) ?_
    · intro x ws s N b hN hl
      obtain ⟨w, s', e, g, b'⟩ := word b (by omega) (ws.map D.str) (by rw [List.length_map]; omega)
      simp only [pure_bind, bind_assoc, mkT_nil] at e
      exact ⟨w, s', e, g, b'⟩
    · intro vs s3 l3 p3 b3
      rw [lq] at l3 b3
      rw [show Me.join (.str (Str.ofString " ")) [.lst (vs.map D.str)] = pure (.str (Str.join sp vs)) from joinM (m := 30) (fun w hw => (p3 w hw).l) (by
        have : sp.length = 1 := by decide
        rw [this]
        omega), pure_bind, if_pos (lenOk_of (by rw [List.length_map]; omega))]
      exact ⟨Str.join sp vs, s3, rfl, pg_of p3 (fun z => by rw [z] at l3; simp at l3) (by omega), b3.mono (by omega)⟩
  · intro ps s3 l3 p3 b3
    rw [lk] at l3 b3
    rw [show Me.join (.str (Str.ofString " || ")) [.lst (ps.map D.str)] = pure (.str (Str.join bars ps)) from joinM (m := 130) (fun w hw => (p3 w hw).l) (by
      have : bars.length = 4 := by decide
      rw [this]
      omega)]
    obtain ⟨r1, r2⟩ := rg_of p3 (fun z => by rw [z] at l3; simp at l3) (by omega)
    exact ⟨_, s3, rfl, r1, r2, b3.mono (by omega)⟩
end Pl

set_option maxRecDepth 100000
set_option autoImplicit false
set_option maxHeartbeats 2000000
/-! PZ34: numbers as versions; the edges of rows; a version in a range. -/
namespace Pl
open PySem DL TL Mi L2 PySem.W
def tD (v : V) : D := .str v.t
def vN (n : Nat) (ws : List Wd) : V := ⟨n / 100000000, n / 10000 - n / 100000000 * 10000, n - n / 10000 * 10000, ws⟩
def V.w (v : V) : Nat := whole v.a v.b v.c
theorem vN_w {n : Nat} (ws : List Wd) : (vN n ws).w = n := by
  unfold V.w vN whole
  dsimp only
  omega
theorem vN_good {n : Nat} {ws : List Wd} (h : n < END) (hw : ∀ w ∈ ws, w ∈ wmenu) (hl : ws.length ≤ 3) : (vN n ws).Good := by
  unfold END at h
  refine ⟨?_, ?_, ?_, hw, hl⟩ <;> (unfold vN; dsimp only; omega)
theorem mk3i (x y z : D) : Op.mkT [x, y, z] = pure (.tup [x, y, z]) := rfl
theorem three {n : Nat} (h : n < END) : m__law_three [.int (n : Int)] = pure (n3 (vN n []).a (vN n []).b (vN n []).c) := by
  unfold END at h
  unfold m__law_three
  simp only [pure_bind, fdiv_ok (show (0 : Int) < 100000000 by omega) (by omega), fdiv_ok (show (0 : Int) < 10000 by omega) (by omega), mulR (show -18446744073709551616 < (10000 : Int) ∧ (10000 : Int) < 18446744073709551616 by omega), sub_ii, mk3i]
  unfold n3 vN
  dsimp only
  have e1 : (n : Int) / 100000000 = ((n / 100000000 : Nat) : Int) := by omega
  have e2 : (n : Int) / 10000 - (n : Int) / 100000000 * 10000 = ((n / 10000 - n / 100000000 * 10000 : Nat) : Int) := by omega
  have e3 : (n : Int) - (n : Int) / 10000 * 10000 = ((n - n / 10000 * 10000 : Nat) : Int) := by omega
  rw [e2, e3, e1]
theorem n3_add (a b c : Nat) (ws : List Wd) : Op.add (n3 a b c) (.tup [.tup (ws.map Wd.d)]) = pure (vD a b c ws) := rfl
theorem parts_V {v : V} (g : v.Good) : m_parts_of [tD v] = pure v.d := parts_of_yes (Good.in_ g) rfl
theorem lparts {u : V} (g : u.Good) : m__law_parts [tD u] = pure u.d := Good.law g
theorem ltext {v : V} (g : v.Good) : m__law_text [v.d] = pure (tD v) := law_text g.lt.1 g.lt.2.1 g.lt.2.2.1 g.lt.2.2.2 g.hl
theorem rows_le {t : Str} {rs : List R2} (h : rowsO t = some rs) : rs.length ≤ 4 := by
  unfold rowsO at h
  split at h
  · cases h
  · split at h
    · cases h
    · next c => cases h; omega
theorem rows_of {t : Str} {rs : List R2} (ht : t.length ≤ 800) (h : rowsO t = some rs) : m_rows_of [.str t] = pure (.lst ((joinN rs).map rowD)) := by
  unfold m_rows_of
  simp only [pure_bind, rows_in ht, h]
  rfl
theorem vd3 (v : V) : Op.idx v.d (.int 3) = pure (.tup (v.ws.map Wd.d)) := idx_tup rfl
theorem sld3 (v : V) : Op.slc v.d none (some 3) = pure (n3 v.a v.b v.c) := rfl
theorem has_parts {rs : List R2} (h : rs.length ≤ 1000) (v : V) : m_has_parts [.lst (rs.map rowD), v.d] = pure (.bl (v.ws.isEmpty && inR rs v.w)) := by
  unfold m_has_parts
  simp only [pure_bind, vd3, mkT_nil, eq_nilT, truthB_bl, asInt_int, sld3, number_of]
  cases v.ws.isEmpty with
  | false => rfl
  | true =>
    simp only [if_true, Bool.true_and]
    exact has_number h _
/-- in the range, by the law -/
def inV (rs : List R2) (v : V) : Bool := v.ws.isEmpty && inR rs v.w
theorem has_joined {rs : List R2} (h : rs.length ≤ 4) (v : V) : m_has_parts [.lst ((joinN rs).map rowD), v.d] = pure (.bl (inV rs v)) := by
  rw [has_parts (by have := joinN_len rs; omega), inR_join]
  rfl
theorem in_range {v : V} (g : v.Good) {t : Str} {rs : List R2} (ht : t.length ≤ 800) (h : rowsO t = some rs) : m_in_range [tD v, .str t] = pure (.bl (inV rs v)) := by
  unfold m_in_range
  simp only [pure_bind, parts_V g, rows_of ht h]
  exact has_joined (rows_le h) v
theorem said_in {v : V} (g : v.Good) {t : Str} {rs : List R2} (ht : t.length ≤ 800) (h : rowsO t = some rs) {i : Int} (hi : i = 0 ∨ i = 1) : m__law_said [.int i, tD v, .str t] = pure (told (.bl (inV rs v))) :=
  funext fun s => said01 hi (.ok _ (by rw [in_range g ht h]; rfl))
theorem is_range {t : Str} (ht : t.length ≤ 800) : m_is_range [.str t] = pure (.bl (rowsO t).isSome) := by
  unfold m_is_range
  simp only [pure_bind, rows_in ht]
  cases rowsO t <;> rfl
/-! the edges -/
def okN (z : Int) : Bool := decide (0 ≤ z) && decide (z < 1000000000000)
def nD (n : Nat) : D := .int (n : Int)
theorem ok_nat (zs : List Int) : ∃ ns : List Nat, (zs.filter okN).map D.int = ns.map nD ∧ ns.length ≤ zs.length ∧ ∀ n ∈ ns, n < END := by
  refine ⟨(zs.filter okN).map Int.toNat, ?_, ?_, ?_⟩
  · rw [List.map_map]
    refine List.map_congr_left fun z hz => ?_
    have := (List.mem_filter.mp hz).2
    unfold okN at this
    rw [Bool.and_eq_true, decide_eq_true_eq, decide_eq_true_eq] at this
    show D.int z = D.int (z.toNat : Int)
    congr 1; omega
  · rw [List.length_map]; exact List.length_filter_le _ _
  · intro n hn
    obtain ⟨z, hz, rfl⟩ := List.mem_map.mp hn
    have := (List.mem_filter.mp hz).2
    unfold okN at this
    rw [Bool.and_eq_true, decide_eq_true_eq, decide_eq_true_eq] at this
    unfold END; omega
theorem forN_nats {body : D → List D → M (List D)} (hb : ∀ (x : R2) (acc : List Nat), acc.length ≤ 1000 → (∀ n ∈ acc, n < END) → ∃ ns : List Nat, body (rowD x) (acc.map nD) = pure ((acc ++ ns).map nD) ∧ ns.length ≤ 6 ∧ ∀ n ∈ ns, n < END) : ∀ (xs : List R2) (acc : List Nat), acc.length + 6 * xs.length ≤ 900 → (∀ n ∈ acc, n < END) → ∃ ns : List Nat, forN body (xs.map rowD) (acc.map nD) = pure ((acc ++ ns).map nD) ∧ ns.length ≤ 6 * xs.length ∧ ∀ n ∈ ns, n < END
  | [], acc, _, _ => ⟨[], by rw [List.append_nil]; rfl, by simp, by simp⟩
  | x :: xs, acc, hl, ha => by
    simp only [List.length_cons] at hl ⊢
    obtain ⟨ns, e1, l1, p1⟩ := hb x acc (by omega) ha
    obtain ⟨ms, e2, l2, p2⟩ := forN_nats hb xs (acc ++ ns) (by simp; omega) (fun n hn => (List.mem_append.mp hn).elim (ha n) (p1 n))
    refine ⟨ns ++ ms, ?_, by simp; omega, fun n hn => (List.mem_append.mp hn).elim (p1 n) (p2 n)⟩
    rw [List.map_cons]
    unfold forN
    rw [e1, pure_bind, e2, List.append_assoc]
theorem mkL6i (a b c d e f : D) : Op.mkL [a, b, c, d, e, f] = pure (.lst [a, b, c, d, e, f]) := rfl
theorem edges {rs : List R2} (h : rs.length ≤ 4) (x : D) : ∃ ns : List Nat, m__law_edges [x, .lst (rs.map rowD)] = pure (.lst (ns.map nD)) ∧ ns.length ≤ 30 ∧ 0 < ns.length ∧ ∀ n ∈ ns, n < END := by
  unfold m__law_edges
  simp only [pure_bind, pow12, sub_ii, mk2, lstK_lst, items_lst]
  have e0 : [D.int 0, D.int (1000000000000 - 1)] = [0, 999999999999].map nD := rfl
  rw [e0]
  obtain ⟨ns, e, l, p⟩ := forN_nats (body := fun x32 (t8 : List D) => un2 x32 >>= fun b9 => Op.sub b9.1 (.int 1) >>= fun x10 => Op.add b9.1 (.int 1) >>= fun x14 => Op.sub b9.2 (.int 1) >>= fun x17 => Op.add b9.2 (.int 1) >>= fun x21 => Op.mkL [x10, b9.1, x14, x17, b9.2, x21] >>= fun x => itemsOf x >>= fun xs => comp (fun x30 => (Op.leG (.int 0) x30 >>= fun r => truthB r >>= fun t => if t = true then Op.ltG x30 (.int 1000000000000) >>= truthB else pure false) >>= fun b => if b = true then pure (some x30) else pure none) xs >>= lstK fun w31 => if Op.lenOk (List.length t8 + List.length w31) = true then pure (t8 ++ w31) else M.bad) (fun x acc ha hp => by
    obtain ⟨lo, hi⟩ := x
    obtain ⟨ns, e, l, p⟩ := ok_nat [(lo : Int) - 1, (lo : Int), (lo : Int) + 1, (hi : Int) - 1, (hi : Int), (hi : Int) + 1]
    refine ⟨ns, ?_, l, p⟩
    simp only [un2row, pure_bind, sub_ii, add_ii, mkL6i, items_lst]
    rw [show [D.int ((lo : Int) - 1), D.int (lo : Int), D.int ((lo : Int) + 1), D.int ((hi : Int) - 1), D.int (hi : Int), D.int ((hi : Int) + 1)] = [(lo : Int) - 1, (lo : Int), (lo : Int) + 1, (hi : Int) - 1, (hi : Int), (hi : Int) + 1].map D.int from rfl]
    rw [comp_filtF (p := okN) (fun z _ => by
      simp only [leG_ii, pure_bind, truthB_bl, ltG_ii]
      unfold okN
      cases decide (0 ≤ z) <;> cases decide (z < 1000000000000) <;> rfl) (by simp), pure_bind, lstK_lst, e, if_pos (lenOk_of (by simp at l ⊢; omega)), List.map_append]) rs [0, 999999999999] (by simp; omega) (by intro n hn; simp at hn; unfold END; omega)
  simp only [pure_bind, bind_assoc] at e ⊢
  rw [e, pure_bind]
  exact ⟨_, rfl, by simp; omega, by simp, fun n hn => (List.mem_append.mp hn).elim (fun z => by simp at z; unfold END; omega) (p n)⟩
end Pl

set_option maxRecDepth 100000
set_option autoImplicit false
set_option maxHeartbeats 2000000
/-! QA34: the best of some versions. -/
namespace Pl
open PySem DL TL Mi L2 PySem.W
/-- the key of the program's lambda -/
def kf : D → M D := fun d9 => (m_parts_in [d9] >>= fun x1 => pure [x1]) >>= m_key_of
theorem kf_eq {v : V} (g : v.Good) : kf (tD v) = pure (keyD v) := by
  unfold kf tD V.t
  rw [Good.in_ g, pure_bind, pure_bind]
  exact key_of v (Nat.le_trans g.hl (by omega))
theorem keyRun_eq {v : V} (g : v.Good) : keyRun kf (tD v) = some (keyD v) := by
  unfold keyRun
  rw [kf_eq g]
  rfl
theorem keyOf_eq {v : V} (g : v.Good) : DL.keyOf kf (tD v) = keyD v := by
  unfold DL.keyOf
  rw [keyRun_eq g]
  rfl
theorem sortOk_keys (vs : List V) : sortOk (vs.map keyD) = true := by
  unfold sortOk
  rw [Bool.and_eq_true, Bool.and_eq_true, Bool.or_eq_true]
  refine ⟨⟨?_, ?_⟩, .inl ?_⟩
  · rw [List.all_map]; exact List.all_eq_true.mpr fun v _ => lay_key v
  · rw [List.all_map]
    refine List.all_eq_true.mpr fun v _ => ?_
    show (vs.map keyD).all _ = true
    rw [List.all_map]
    refine List.all_eq_true.mpr fun w _ => ?_
    show alike (D.toP (keyD v)) (D.toP (keyD w)) = true
    rw [toP_key, toP_key]
    exact alike_V v w
  · rw [List.all_map]; exact List.all_eq_true.mpr fun v _ => rfl
theorem keyOk_eq {vs : List V} (g : ∀ v ∈ vs, v.Good) : keyOk kf (vs.map tD) = true := by
  unfold keyOk
  rw [Bool.and_eq_true]
  refine ⟨?_, ?_⟩
  · simp only [List.all_map, List.all_eq_true]
    intro v hv
    show (keyRun kf (tD v)).isSome = true
    rw [keyRun_eq (g v hv)]
    rfl
  · rw [List.map_map, show vs.map (DL.keyOf kf ∘ tD) = vs.map keyD from List.map_congr_left fun v hv => keyOf_eq (g v hv)]
    exact sortOk_keys vs
theorem are_yes {vs : List V} (g : ∀ v ∈ vs, v.Good) (hl : vs.length ≤ 20) : m_are_versions [.tup (vs.map tD)] = pure (.bl true) := by
  unfold m_are_versions c_MOST_TEXTS
  simp only [pure_bind, isiT, show isiTab "tuple" "tuple" = true from by decide, truthB_bl, Bool.not_true, Bool.false_eq_true, if_false, len_tup, gtG_ii, List.length_map, items_tup]
  rw [show decide ((20 : Int) < (vs.length : Int)) = false from decide_eq_false (by omega)]
  simp only [Bool.false_eq_true, if_false]
  rw [comp_mapF (g := fun _ => D.bl true) (fun v hv => by
    show (m_parts_in [.str (textP v.a v.b v.c v.ws)] >>= _) >>= _ = _
    rw [Good.in_ (g v hv)]
    rfl) (by omega), pure_bind]
  have := all_bl (fun _ : V => true) vs
  rw [pure_bind, this, show vs.all (fun _ => true) = true from List.all_eq_true.mpr fun _ _ => rfl]
/-- the first of the greatest -/
def bstep (o : Option V) (w : V) : Option V := match o with
  | none => some w
  | some u => if cV u w < 0 then some w else some u
theorem arg_best (us : List V) (g : ∀ v ∈ us, v.Good) : ∀ k, k < us.length → (us.take (k + 1)).foldl bstep none = us[argBest (btK kf (us.map tD)) k]?
  | 0, h => by
    cases us with
    | nil => simp at h
    | cons u us => rfl
  | k + 1, h => by
    have ih := arg_best us g k (by omega)
    have hj : argBest (btK kf (us.map tD)) k ≤ k := argBest_le _ k
    show _ = us[if btK kf (us.map tD) (k + 1) (argBest (btK kf (us.map tD)) k) = true then k + 1 else argBest (btK kf (us.map tD)) k]?
    generalize argBest (btK kf (us.map tD)) k = j at ih hj
    rw [show us.take (k + 1 + 1) = us.take (k + 1) ++ [us[k + 1]] from by rw [List.take_succ, List.getElem?_eq_getElem h]; rfl, List.foldl_append, ih, List.getElem?_eq_getElem (show j < us.length by omega)]
    have gj := g _ (List.getElem_mem (show j < us.length by omega))
    have gk := g _ (List.getElem_mem h)
    have hb : btK kf (us.map tD) (k + 1) j = decide (cV us[j] us[k + 1] < 0) := by
      unfold btK
      have x1 : (us.map tD).getD j .non = tD us[j] := by simp [List.getD, show j < us.length by omega]
      have x2 : (us.map tD).getD (k + 1) .non = tD us[k + 1] := by simp [List.getD, h]
      rw [x1, x2, keyOf_eq gj, keyOf_eq gk, toP_key, toP_key, lt_V]
      refine decide_eq_decide.mpr ?_
      have := cV_rng us[j] us[k + 1]
      omega
    rw [hb]
    show bstep (some us[j]) us[k + 1] = _
    unfold bstep
    dsimp only
    by_cases c : cV us[j] us[k + 1] < 0
    · rw [if_pos c, decide_eq_true c, if_pos rfl, List.getElem?_eq_getElem h]
    · rw [if_neg c, decide_eq_false c, if_neg Bool.false_ne_true, List.getElem?_eq_getElem (show j < us.length by omega)]
def oT : Option V → D
  | none => .non
  | some v => tD v
theorem maxKey_eq {us : List V} (g : ∀ v ∈ us, v.Good) (h : 0 < us.length) : Bi.maxKey kf [.lst (us.map tD)] = pure (oT (us.foldl bstep none)) := by
  show (if (keyOk kf (us.map tD) && decide (0 < (us.map tD).length)) = true then (pure (bestD kf (us.map tD)) : M D) else M.bad) = _
  rw [keyOk_eq g, List.length_map, decide_eq_true h, if_pos (show (true && true) = true from rfl)]
  have e := arg_best us g (us.length - 1) (by omega)
  have hj := argBest_le (btK kf (us.map tD)) (us.length - 1)
  rw [show us.length - 1 + 1 = us.length by omega, List.take_length] at e
  rw [e]
  unfold bestD
  rw [List.length_map]
  generalize argBest (btK kf (us.map tD)) (us.length - 1) = j at hj
  rw [List.getElem?_eq_getElem (show j < us.length by omega)]
  congr 1
  show (us.map tD).getD j .non = tD us[j]
  simp [List.getD, show j < us.length by omega]
/-- the best one in the range, as the law finds it -/
def lstep (rs : List R2) (o : Option V) (w : V) : Option V := if inV rs w then bstep o w else o
theorem fold_filter (rs : List R2) (vs : List V) : (vs.filter (inV rs)).foldl bstep none = vs.foldl (lstep rs) none := by
  rw [List.foldl_filter]
  rfl
theorem ne_nilM (us : List V) : Op.ne (.lst (us.map tD)) (.lst []) = pure (.bl (!us.isEmpty)) := by
  rw [nil_ne (by rw [List.all_map]; exact List.all_eq_true.mpr fun _ _ => rfl)]
  cases us <;> rfl
theorem best_in {vs : List V} (g : ∀ v ∈ vs, v.Good) (hl : vs.length ≤ 20) {t : Str} {rs : List R2} (ht : t.length ≤ 800) (h : rowsO t = some rs) {s : Sto} (hs : s.any (isTab tabN) = true) : m_best_in [.tup (vs.map tD), .str t] s = .ok (oT (vs.foldl (lstep rs) none)) s := by
  unfold m_best_in
  simp only [pure_bind]
  rw [are_yes g hl]
  simp only [pure_bind, truthB_bl, Bool.not_true, Bool.false_eq_true, if_false, rows_of ht h, items_tup, mkL_nil]
  rw [comp_filtF (h := tD) (p := inV rs) (fun v hv => by
    have hp : m_parts_in [tD v] = pure (vD v.a v.b v.c v.ws) := Good.in_ (g v hv)
    rw [hp, pure_bind, pure_bind, pure_bind, show vD v.a v.b v.c v.ws = v.d from rfl, has_joined (rows_le h) v, pure_bind, truthB_bl, pure_bind]
    cases inV rs v <;> rfl) (by omega), pure_bind, ne_nilM, pure_bind, truthB_bl, pure_bind, ← fold_filter]
  have gf : ∀ v ∈ vs.filter (inV rs), v.Good := fun v hv => g v (List.mem_filter.mp hv).1
  generalize vs.filter (inV rs) = us at gf
  cases us with
  | nil => rfl
  | cons u us =>
    rw [if_pos (show (!(u :: us).isEmpty) = true from rfl)]
    have e1 : Op.tab "best_in" s = .ok () s := by unfold Op.tab; exact if_pos hs
    have ho : (Op.tab "best_in" >>= fun _ => Bi.maxKey kf [.lst ((u :: us).map tD)]) s = .ok (oT ((u :: us).foldl bstep none)) s := by
      rw [bind_ok e1, maxKey_eq gf (by simp)]
      rfl
    unfold kf at ho
    exact ho
theorem said_best {vs : List V} (g : ∀ v ∈ vs, v.Good) (hl : vs.length ≤ 20) {t : Str} {rs : List R2} (ht : t.length ≤ 800) (h : rowsO t = some rs) {s : Sto} (hs : s.any (isTab tabN) = true) {i : Int} (hi : i = 2 ∨ i = 3) : m__law_said [.int i, .tup (vs.map tD), .str t] s = .ok (told (oT (vs.foldl (lstep rs) none))) s :=
  said23 hi (.ok _ (best_in g hl ht h hs))
/-! the law's own -/
def oD : Option V → D
  | none => .non
  | some v => v.d
theorem isNon_oD (o : Option V) : Op.isNon (oD o) = o.isNone := by cases o <;> rfl
def bbody (rows : D) (x165 t151 : D) : M D := (Op.idx x165 (.int 3) >>= fun x => Op.eq x (.tup []) >>= truthB >>= fun c => if c = true then (m__law_whole [x165] >>= fun x158 => m__law_in [rows, x158] >>= truthB >>= fun c => if c = true then (if Op.isNon t151 = true then pure true else m__law_comes [t151, x165] >>= fun x162 => Op.ltG x162 (.int 0) >>= truthB) else pure false) else pure false) >>= fun b => if b = true then pure x165 else pure t151
theorem bbody_eq {rs : List R2} (h : rs.length ≤ 4) (o : Option V) (w : V) : bbody (.lst (rs.map rowD)) w.d (oD o) = pure (oD (lstep rs o w)) := by
  unfold bbody lstep inV
  have hw : m__law_whole [w.d] = pure (.int ((w.w : Nat) : Int)) := law_whole4 _ _ _ _
  simp only [pure_bind, vd3, eq_nilT, truthB_bl, hw, law_in (show rs.length ≤ 1000 by omega), isNon_oD]
  cases w.ws.isEmpty with
  | false => simp
  | true =>
    cases inR rs w.w with
    | false => simp
    | true =>
      cases o with
      | none => rfl
      | some u =>
        simp only [Bool.and_self, if_true, Option.isNone_some, Bool.false_eq_true, if_false, oD, comes, pure_bind, ltG_ii, truthB_bl]
        unfold bstep
        dsimp only
        by_cases c : cV u w < 0
        · simp [c]
        · simp [c]
theorem forN_best {body : D → D → M D} {rs : List R2} (hb : ∀ (o : Option V) (w : V), body w.d (oD o) = pure (oD (lstep rs o w))) : ∀ (vs : List V) (o : Option V), forN body (vs.map V.d) (oD o) = pure (oD (vs.foldl (lstep rs) o))
  | [], o => rfl
  | v :: vs, o => by
    rw [List.map_cons]
    unfold forN
    rw [hb, pure_bind, forN_best hb vs]
    rfl
theorem best_good (rs : List R2) : ∀ (vs : List V) (o : Option V), (∀ v ∈ vs, v.Good) → (∀ v ∈ o, v.Good) → ∀ v ∈ vs.foldl (lstep rs) o, v.Good
  | [], o, _, h, v, hv => h v hv
  | u :: vs, o, g, h, v, hv => by
    refine best_good rs vs (lstep rs o u) (fun v hv => g v (by simp [hv])) (fun w hw => ?_) v hv
    unfold lstep at hw
    split at hw
    · unfold bstep at hw
      split at hw
      · cases hw; exact g u (by simp)
      · split at hw
        · cases hw; exact g u (by simp)
        · cases hw; exact h _ rfl
    · exact h w hw
theorem oT_text {o : Option V} (g : ∀ v ∈ o, v.Good) : (if Op.isNon (oD o) = true then (pure D.non : M D) else m__law_text [oD o]) = pure (oT o) := by
  cases o with
  | none => rfl
  | some v => exact ltext (g v rfl)
end Pl

set_option maxRecDepth 100000
set_option autoImplicit false
set_option maxHeartbeats 2000000
/-! QB34: a text that is bent. -/
namespace Pl
open PySem DL TL Mi L2 PySem.W
theorem slc_cut {t : Str} (h : t.length ≤ 1000) (lo hi : Option Int) : ∃ u : Str, Op.slc (.str t) lo hi = pure (.str u) ∧ u.length ≤ t.length := ⟨_, slc_str (by omega), cut_len t lo hi⟩
theorem cutH (t : Str) (k : Nat) : (cutS t none (some (k : Int))).length ≤ k := by
  rw [len_tl, tl_cut, List.length_take]
  omega
theorem cutT (t : Str) (k : Nat) : (cutS t (some (k : Int)) none).length ≤ t.length - k := by
  rw [len_tl]
  show (((tl t).drop (HT.sIx _ 0 (some (k : Int)))).take _).length ≤ _
  rw [List.length_take, List.length_drop, ← len_tl]
  simp only [HT.sIx_nat]
  omega
theorem slc_h {t : Str} (h : t.length ≤ 1000) (k : Nat) : ∃ u : Str, Op.slc (.str t) none (some (k : Int)) = pure (.str u) ∧ u.length ≤ k := ⟨_, slc_str (by omega), cutH t k⟩
theorem slc_t {t : Str} (h : t.length ≤ 1000) (k : Nat) : ∃ u : Str, Op.slc (.str t) (some (k : Int)) none = pure (.str u) ∧ u.length ≤ t.length - k := ⟨_, slc_str (by omega), cutT t k⟩
theorem add_le {x y : Str} (hx : x.length ≤ 1000) (hy : y.length ≤ 1000) : ∃ u : Str, Op.add (.str x) (.str y) = pure (.str u) ∧ u.length ≤ x.length + y.length := ⟨_, add_ss (by omega), by rw [Str.length_append]; exact Nat.le_refl _⟩
theorem pick_str {xs : List D} {i B : Nat} (hi : i < xs.length) (h : ∀ d ∈ xs, ∃ u : Str, d = .str u ∧ u.length ≤ B) : ∃ u : Str, Op.idx (.lst xs) (.int (i : Int)) = pure (.str u) ∧ u.length ≤ B := by
  obtain ⟨u, e, l⟩ := h _ (List.getElem_mem hi)
  exact ⟨u, by rw [idx_nat hi, e], l⟩
theorem spoiled {n N : Nat} {s : Sto} (hb : Box n N s) (hN : N ≤ 800000) {t : Str} (ht : t.length ≤ 600) : ∃ (u : Str) (s' : Sto), m__law_spoiled [.ref n, .str t] s = .ok (.str u) s' ∧ u.length ≤ 620 ∧ Box n (N + 3) s' := by
  unfold m__law_spoiled
  simp only [pure_bind, bind_assoc, len_str (show t.length ≤ 16777216 by omega), add_ii]
  obtain ⟨i, s1, e1, l1, b1⟩ := take (many := 7) hb (by omega) (by omega)
  rw [bind_ok e1]
  obtain ⟨j, s2, e2, l2, b2⟩ := take (many := (t.length : Int) + 1) b1 (by omega) (by omega)
  rw [bind_ok e2]
  simp only [ltG_ii, truthB_bl, pure_bind, asInt_int, add_ii]
  by_cases c : (i : Int) < 3
  · simp only [c, decide_true, if_true]
    obtain ⟨u1, h1, q1⟩ := slc_h (t := t) (by omega) j
    rw [h1]
    simp only [pure_bind, bind_assoc]
    rw [show Op.mkL [D.str ("0" : Str), .str ("." : Str), .str ("-" : Str), .str (" " : Str), .str ("A" : Str), .str ("1" : Str), .str ("v" : Str), .str ("_" : Str)] = pure (.lst [D.str ("0" : Str), .str ("." : Str), .str ("-" : Str), .str (" " : Str), .str ("A" : Str), .str ("1" : Str), .str ("v" : Str), .str ("_" : Str)]) from rfl, pure_bind]
    obtain ⟨k, s3, e3, l3, b3⟩ := take (many := 8) b2 (by omega) (by omega)
    rw [bind_ok e3]
    obtain ⟨u2, h2, q2⟩ := pick_str (xs := [D.str ("0" : Str), .str ("." : Str), .str ("-" : Str), .str (" " : Str), .str ("A" : Str), .str ("1" : Str), .str ("v" : Str), .str ("_" : Str)]) (i := k) (B := 8) (by simp; omega) (by
      intro d hd
      simp only [List.mem_cons, List.not_mem_nil, or_false] at hd
      rcases hd with rfl | rfl | rfl | rfl | rfl | rfl | rfl | rfl <;> exact ⟨_, rfl, by decide⟩)
    rw [h2]
    simp only [pure_bind]
    obtain ⟨u3, h3, q3⟩ := add_le (x := u1) (y := u2) (by omega) (by omega)
    rw [h3]
    simp only [pure_bind]
    obtain ⟨u4, h4, q4⟩ := slc_t (t := t) (by omega) j
    rw [h4]
    simp only [pure_bind]
    obtain ⟨u5, h5, q5⟩ := add_le (x := u3) (y := u4) (by omega) (by omega)
    rw [h5]
    exact ⟨u5, s3, rfl, by omega, b3⟩
  · simp only [c, decide_false, Bool.false_eq_true, if_false]
    by_cases c2 : (i : Int) < 5
    · simp only [c2, decide_true, if_true]
      obtain ⟨u1, h1, q1⟩ := slc_h (t := t) (by omega) j
      rw [h1]
      simp only [pure_bind]
      obtain ⟨u2, h2, q2⟩ := slc_t (t := t) (by omega) (j + 1)
      rw [show ((j : Int) + 1) = ((j + 1 : Nat) : Int) by omega, h2]
      simp only [pure_bind]
      obtain ⟨u5, h5, q5⟩ := add_le (x := u1) (y := u2) (by omega) (by omega)
      rw [h5]
      exact ⟨u5, s2, rfl, by omega, b2.mono (by omega)⟩
    · simp only [c2, decide_false, Bool.false_eq_true, if_false, bind_assoc]
      obtain ⟨u1, h1, q1⟩ := add_le (x := t) (y := ("-" : Str)) (by omega) (by decide)
      obtain ⟨u2, h2, q2⟩ := add_le (x := t) (y := (".0" : Str)) (by omega) (by decide)
      obtain ⟨u3, h3, q3⟩ := add_le (x := ("v" : Str)) (y := t) (by decide) (by omega)
      obtain ⟨u4, h4, q4⟩ := add_le (x := t) (y := ("-01" : Str)) (by omega) (by decide)
      obtain ⟨u5, h5, q5⟩ := add_le (x := t) (y := ("-abcdefg" : Str)) (by omega) (by decide)
      obtain ⟨u6, h6, q6⟩ := add_le (x := t) (y := (" " : Str)) (by omega) (by decide)
      obtain ⟨u7, h7, q7⟩ := add_le (x := ("0" : Str)) (y := t) (by decide) (by omega)
      obtain ⟨u8, h8, q8⟩ := add_le (x := t) (y := ("-a.b.c.d" : Str)) (by omega) (by decide)
      rw [show (Str.ofString "-").length = 1 by decide] at q1
      rw [show (Str.ofString ".0").length = 2 by decide] at q2
      rw [show (Str.ofString "v").length = 1 by decide] at q3
      rw [show (Str.ofString "-01").length = 3 by decide] at q4
      rw [show (Str.ofString "-abcdefg").length = 8 by decide] at q5
      rw [show (Str.ofString " ").length = 1 by decide] at q6
      rw [show (Str.ofString "0").length = 1 by decide] at q7
      rw [show (Str.ofString "-a.b.c.d").length = 8 by decide] at q8
      simp only [h1, h2, h3, h4, h5, h6, h7, h8, pure_bind]
      rw [show Op.mkL [D.str u1, .str u2, .str u3, .str u4, .str u5, .str u6, .str u7, .str u8] = pure (.lst [D.str u1, .str u2, .str u3, .str u4, .str u5, .str u6, .str u7, .str u8]) from rfl, pure_bind]
      obtain ⟨k, s3, e3, l3, b3⟩ := take (many := 8) b2 (by omega) (by omega)
      rw [bind_ok e3]
      obtain ⟨u, h, q⟩ := pick_str (xs := [D.str u1, .str u2, .str u3, .str u4, .str u5, .str u6, .str u7, .str u8]) (i := k) (B := 620) (by simp; omega) (by
        intro d hd
        simp only [List.mem_cons, List.not_mem_nil, or_false] at hd
        rcases hd with rfl | rfl | rfl | rfl | rfl | rfl | rfl | rfl <;> exact ⟨_, rfl, by omega⟩)
      rw [h]
      exact ⟨u, s3, rfl, q, b3⟩
def more : List Str := ["||", " || ", " |", "  ", " =1.0.0-a", " >1.0", " =", " v1.0.0", " !1.0.0", " ** ", " ~*", " =>1.0.0", " < 1.0.0"]
theorem more_le : ∀ m ∈ more, m.length ≤ 10 := by decide
theorem mkMore : Op.mkL [D.str ("||" : Str), .str (" || " : Str), .str (" |" : Str), .str ("  " : Str), .str (" =1.0.0-a" : Str), .str (" >1.0" : Str), .str (" =" : Str), .str (" v1.0.0" : Str), .str (" !1.0.0" : Str), .str (" ** " : Str), .str (" ~*" : Str), .str (" =>1.0.0" : Str), .str (" < 1.0.0" : Str)] = pure (.lst (more.map D.str)) := rfl
theorem mul4 (x : D) : Op.mul (.lst [x]) (.int 4) = pure (.lst [x, x, x, x]) := rfl
theorem mkL1 (x : D) : Op.mkL [x] = pure (.lst [x]) := rfl
theorem add_ll {xs ys : List D} (h : xs.length + ys.length ≤ 16777216) : Op.add (.lst xs) (.lst ys) = pure (.lst (xs ++ ys)) := by
  show (if Op.lenOk (xs.length + ys.length) = true then (pure (D.lst (xs ++ ys)) : M D) else M.bad) = _
  rw [if_pos (lenOk_of h)]
theorem join5 (y t x : Str) (ht : t.length ≤ 600) (hx : x.length ≤ 6) (hy : y.length ≤ 4) : ∃ u : Str, Me.join (.str y) [.lst [.str t, .str x, .str x, .str x, .str x]] = pure (.str u) ∧ u.length ≤ 650 := by
  have hs : (([t, x, x, x, x] : List Str).map (·.length)).sum + ([t, x, x, x, x] : List Str).length * y.length ≤ 650 := by simp; omega
  refine ⟨Str.join y [t, x, x, x, x], ?_, Nat.le_trans (join_len _ _) hs⟩
  have := join_strs (y := y) (xs := [t, x, x, x, x]) (by omega)
  exact this
theorem bent {n N : Nat} {s : Sto} (hb : Box n N s) (hN : N ≤ 700000) {t : Str} (ht : t.length ≤ 600) : ∃ (u : Str) (s' : Sto), m__law_bent [.ref n, .str t] s = .ok (.str u) s' ∧ u.length ≤ 650 ∧ Box n (N + 5) s' := by
  unfold m__law_bent
  simp only [pure_bind, bind_assoc, isStr_str]
  obtain ⟨i, s1, e1, l1, b1⟩ := take (many := 4) hb (by omega) (by omega)
  rw [bind_ok e1]
  simp only [ltG_ii, truthB_bl, pure_bind, eq_ii, mkMore]
  by_cases c : (i : Int) < 2
  · simp only [c, decide_true, if_true]
    obtain ⟨u, s2, e2, l2, b2⟩ := spoiled b1 (by omega) ht
    exact ⟨u, s2, e2, by omega, b2.mono (by omega)⟩
  · simp only [c, decide_false, Bool.false_eq_true, if_false]
    obtain ⟨j, s2, e2, l2, b2⟩ := take (many := 13) b1 (by omega) (by omega)
    have hj : j < 13 := by omega
    rw [bind_ok e2, idx_nat (show j < (more.map D.str).length from hj), pure_bind, List.getElem_map]
    have hm := more_le _ (List.getElem_mem (show j < more.length from hj))
    generalize more[j]'hj = m at hm
    by_cases c2 : (i : Int) = 2
    · simp only [c2, beq_self_eq_true, if_true]
      obtain ⟨u, e, l⟩ := add_le (x := t) (y := m) (by omega) (by omega)
      exact ⟨u, s2, by rw [e]; rfl, by omega, b2.mono (by omega)⟩
    · have h2 : ((i : Int) == 2) = false := by simpa using c2
      simp only [h2, Bool.false_eq_true, if_false]
      obtain ⟨k, s3, e3, l3, b3⟩ := take (many := 2) b2 (by omega) (by omega)
      rw [bind_ok e3]
      simp only [eq_ii, pure_bind, truthB_bl, mkL1, mul4]
      rw [add_ll (by simp), pure_bind, add_ll (by simp), pure_bind]
      simp only [List.cons_append, List.nil_append]
      obtain ⟨u1, f1, q1⟩ := join5 (" " : Str) t ("*" : Str) ht (by decide) (by decide)
      obtain ⟨u2, f2, q2⟩ := join5 (" || " : Str) t ("=1.0.0" : Str) ht (by decide) (by decide)
      rw [f1, f2]
      cases ((k : Int) == 0) with
      | true => exact ⟨u1, s3, rfl, q1, b3.mono (by omega)⟩
      | false => exact ⟨u2, s3, rfl, q2, b3.mono (by omega)⟩
end Pl

set_option maxRecDepth 100000
set_option autoImplicit false
set_option maxHeartbeats 2000000
/-! QC34: what is no version, no tuple of versions, no range. -/
namespace Pl
open PySem DL TL Mi L2 PySem.W
@[simp] theorem nice_int (k : Nat) (i : Int) : nice k (.int i) = true := by cases k <;> rfl
@[simp] theorem nice_bl (k : Nat) (i : Bool) : nice k (.bl i) = true := by cases k <;> rfl
@[simp] theorem nice_non (k : Nat) : nice k .non = true := by cases k <;> rfl
@[simp] theorem nice_dct (k : Nat) : nice k (.dct []) = true := by cases k <;> rfl
theorem nice_str {k : Nat} {x : Str} (h : x.length ≤ 1000) : nice k (.str x) = true := by cases k <;> exact decide_eq_true h
theorem nice_tup {k : Nat} {xs : List D} (h : xs.length ≤ 1000) (h2 : xs.all (nice k) = true) : nice (k + 1) (.tup xs) = true := by
  unfold nice
  simp [h, h2]
theorem nice_lst {k : Nat} {xs : List D} (h : xs.length ≤ 1000) (h2 : xs.all (nice k) = true) : nice (k + 1) (.lst xs) = true := by
  unfold nice
  simp [h, h2]
/-! what is no version -/
structure NoV (d : D) : Prop where
  no : m_parts_in [d] = pure .non
  n : nice 5 d = true
theorem no_str {x : Str} (hl : x.length ≤ 1000) (h : okP (cutN x) (cutW x) = false) : NoV (.str x) := by
  refine ⟨?_, nice_str hl⟩
  rw [parts_in hl]
  unfold partsD
  rw [if_neg (by rw [h]; exact Bool.false_ne_true)]
theorem no_isi {d : D} (h : Bi.isi "str" d = pure (.bl false)) (n : nice 5 d = true) : NoV d := by
  refine ⟨?_, n⟩
  unfold m_parts_in
  simp [h]
/-! what is no tuple of versions -/
structure NoT (d : D) : Prop where
  no : m_are_versions [d] = pure (.bl false)
  n : nice 9 d = true
theorem nice_mono : ∀ (k : Nat) (d : D), nice k d = true → nice (k + 1) d = true := by
  intro k
  induction k with
  | zero =>
    intro d h
    cases d with
    | non => rfl
    | bl b => rfl
    | int i => rfl
    | str x => exact h
    | dct es => cases es with
      | nil => rfl
      | cons e es => unfold nice at h; cases h
    | lst xs => unfold nice at h; cases h
    | tup xs => unfold nice at h; cases h
    | set xs => unfold nice at h; cases h
    | obj c xs => unfold nice at h; cases h
    | ref k => unfold nice at h; cases h
  | succ k ih =>
    intro d h
    cases d with
    | non => rfl
    | bl b => rfl
    | int i => rfl
    | str x => exact h
    | dct es => cases es with
      | nil => rfl
      | cons e es => unfold nice at h; cases h
    | lst xs =>
      unfold nice at h
      rw [Bool.and_eq_true] at h
      exact nice_lst (of_decide_eq_true h.1) (List.all_eq_true.mpr fun x hx => ih x (List.all_eq_true.mp h.2 x hx))
    | tup xs =>
      unfold nice at h
      rw [Bool.and_eq_true] at h
      exact nice_tup (of_decide_eq_true h.1) (List.all_eq_true.mpr fun x hx => ih x (List.all_eq_true.mp h.2 x hx))
    | set xs => unfold nice at h; cases h
    | obj c xs => unfold nice at h; cases h
    | ref k => unfold nice at h; cases h
theorem nice_up {k : Nat} {d : D} (h : nice k d = true) : ∀ j, nice (k + j) d = true
  | 0 => h
  | j + 1 => nice_mono _ _ (nice_up h j)
theorem NoV.n8 {d : D} (h : NoV d) : nice 8 d = true := nice_up h.n 3
theorem nice_t {v : V} (g : v.Good) (k : Nat) : nice k (tD v) = true := nice_str (by have : (textP v.a v.b v.c v.ws).length ≤ 50 := Good.le g; show (textP v.a v.b v.c v.ws).length ≤ 1000; omega)
theorem not_tup {d : D} (h : Bi.isi "tuple" d = pure (.bl false)) (n : nice 9 d = true) : NoT d := by
  refine ⟨?_, n⟩
  unfold m_are_versions
  simp [h]
theorem too_long {xs : List D} (h : 20 < xs.length) (h2 : xs.length ≤ 1000) (n : xs.all (nice 8) = true) : NoT (.tup xs) := by
  refine ⟨?_, nice_tup h2 n⟩
  unfold m_are_versions c_MOST_TEXTS
  simp only [pure_bind, isiT, show isiTab "tuple" "tuple" = true from by decide, truthB_bl, Bool.not_true, Bool.false_eq_true, if_false, len_tup, gtG_ii]
  rw [show decide ((20 : Int) < (xs.length : Int)) = true from decide_eq_true (by omega)]
  rfl
theorem some_bad {xs : List D} (q : D → D) (hl : xs.length ≤ 20) (hq : ∀ x ∈ xs, m_parts_in [x] = pure (q x)) (hn : ∃ x ∈ xs, q x = .non) (n : xs.all (nice 8) = true) : NoT (.tup xs) := by
  refine ⟨?_, nice_tup (by omega) n⟩
  unfold m_are_versions c_MOST_TEXTS
  simp only [pure_bind, isiT, show isiTab "tuple" "tuple" = true from by decide, truthB_bl, Bool.not_true, Bool.false_eq_true, if_false, len_tup, gtG_ii, items_tup]
  rw [show decide ((20 : Int) < (xs.length : Int)) = false from decide_eq_false (by omega)]
  simp only [Bool.false_eq_true, if_false]
  rw [DL.comp_map (g := fun x => D.bl (!Op.isNon (q x))) (fun x hx => by
    simp only [if_true]
    rw [hq x hx]
    rfl) (by omega), pure_bind, pure_bind, all_bl (fun x => !Op.isNon (q x)) xs]
  obtain ⟨x, hx, e⟩ := hn
  rw [show (xs.all fun x => !Op.isNon (q x)) = false from by
    rw [Bool.eq_false_iff]
    intro z
    have := List.all_eq_true.mp z x hx
    rw [e] at this
    cases this]
theorem pickP {n N : Nat} {s : Sto} (hb : Box n N s) (hN : N ≤ 800000) {P : D → Prop} {xs : List D} {m : Int} (hm : m = (xs.length : Int)) (h : ∀ d ∈ xs, P d) (hl : 0 < xs.length ∧ xs.length < 1000) : ∃ (i : Nat) (d : D) (s' : Sto), m__law_take [.ref n, .int m] s = .ok (.int (i : Int)) s' ∧ Op.idx (.lst xs) (.int (i : Int)) = pure d ∧ P d ∧ Box n (N + 1) s' := by
  subst hm
  obtain ⟨i, s1, e1, l1, b1⟩ := take (many := (xs.length : Int)) hb (by omega) (by omega)
  have hi : i < xs.length := by omega
  exact ⟨i, _, s1, e1, idx_nat hi, h _ (List.getElem_mem hi), b1⟩
theorem mulx2 (x : D) : Op.mul (.lst [x]) (.int 2) = pure (.lst [x, x]) := rfl
theorem rng2 : rng1 [.int 2] = pure [.int 0, .int 1] := rfl
theorem comp_two {f : D → M (Option D)} {x y a b : D} (h1 : f x = pure (some a)) (h2 : f y = pure (some b)) : comp f [x, y] = pure (.lst [a, b]) := by
  unfold comp compM
  rw [h1]
  unfold compM
  rw [h2]
  rfl
theorem same12 {d : D} (h : nice 11 d = true) : m__law_same 12 [d, d] = pure (.bl true) := same_refl 11 d h
theorem forF_nx {body : D → Unit → M (Fl Unit)} : ∀ {xs : List D}, (∀ x ∈ xs, body x () = pure (.nx ())) → forF body xs () = pure (.nx ())
  | [], _ => rfl
  | x :: xs, h => by
    unfold forF
    rw [h x (by simp), pure_bind]
    exact forF_nx fun y hy => h y (by simp [hy])
theorem forF_then {β : Type} {body : D → Unit → M (Fl Unit)} {xs : List D} {kk : Fl Unit → M β} {s : Sto} {v : β} {P : Sto → Prop} (hb : ∀ x ∈ xs, body x () = pure (.nx ())) (hk : ∃ s', kk (.nx ()) s = .ok v s' ∧ P s') : ∃ s', (forF body xs () >>= kk) s = .ok v s' ∧ P s' := by
  rw [forF_nx hb, pure_bind]
  exact hk
theorem forF_eqk {β : Type} {body : D → Unit → M (Fl Unit)} {xs : List D} {kk : Fl Unit → M β} {m : M β} (hb : ∀ x ∈ xs, body x () = pure (.nx ())) (hk : kk (.nx ()) = m) : (forF body xs () >>= kk) = m := by
  rw [forF_nx hb, pure_bind]
  exact hk
theorem forF_thenS {β : Type} {body : D → Unit → M (Fl Unit)} {kk : Fl Unit → M β} {s : Sto} {v : β} {P : Sto → Prop} : ∀ {xs : List D} (_ : ∀ x ∈ xs, body x () s = .ok (.nx ()) s) (_ : ∃ s', kk (.nx ()) s = .ok v s' ∧ P s'), ∃ s', (forF body xs () >>= kk) s = .ok v s' ∧ P s'
  | [], _, hk => hk
  | x :: xs, hb, hk => by
    unfold forF
    rw [bind_assoc, bind_ok (hb x (by simp))]
    exact forF_thenS (fun y hy => hb y (by simp [hy])) hk
theorem tup_lst (xs : List D) : Bi.tuple [.lst xs] = pure (.tup xs) := rfl
theorem list_tup (xs : List D) : Bi.list [.tup xs] = pure (.lst xs) := rfl
theorem mul21 (x : D) : Op.mul (.tup [x]) (.int 21) = pure (.tup (List.replicate 21 x)) := rfl
theorem pure_inj {α : Type} {a b : α} (h : (pure a : M α) = pure b) : a = b := by
  have := congrFun h []
  exact (Res.ok.inj this).1
theorem some_bad2 {xs : List D} (hl : xs.length ≤ 20) (hq : ∀ x ∈ xs, ∃ y, m_parts_in [x] = pure y) (hn : ∃ x ∈ xs, m_parts_in [x] = pure .non) (n : xs.all (nice 8) = true) : NoT (.tup xs) := by
  classical
  refine some_bad (fun x => if h : ∃ y, m_parts_in [x] = pure y then h.choose else .non) hl (fun x hx => ?_) ?_ n
  · have h := hq x hx
    simp only [dif_pos h]
    exact h.choose_spec
  · obtain ⟨x, hx, e⟩ := hn
    refine ⟨x, hx, ?_⟩
    have h : ∃ y, m_parts_in [x] = pure y := ⟨_, e⟩
    simp only [dif_pos h]
    exact pure_inj (h.choose_spec.symm.trans e)
theorem mkT1 (a : D) : Op.mkT [a] = pure (.tup [a]) := rfl
theorem add_tt {xs ys : List D} (h : xs.length + ys.length ≤ 16777216) : Op.add (.tup xs) (.tup ys) = pure (.tup (xs ++ ys)) := by
  show (if Op.lenOk (xs.length + ys.length) = true then (pure (D.tup (xs ++ ys)) : M D) else M.bad) = _
  rw [if_pos (lenOk_of h)]
def wrongs : List D := [.non, .int 0, .str ("" : Str), .str ("1.0" : Str), .str ("1.0.0-" : Str), .dct [], .lst [.str ("1.0.0" : Str)], .bl true]
theorem wrongs_no : ∀ d ∈ wrongs, NoV d := by
  intro d hd
  unfold wrongs at hd
  simp only [List.mem_cons, List.not_mem_nil, or_false] at hd
  rcases hd with rfl | rfl | rfl | rfl | rfl | rfl | rfl | rfl
  · exact no_isi rfl rfl
  · exact no_isi rfl rfl
  iterate 3
    · exact no_str (by decide) (by decide +kernel)
  · exact no_isi rfl rfl
  · exact no_isi rfl (nice_lst (by simp) (by simp [nice_str (k := 4) (x := ("1.0.0" : Str)) (by decide)]))
  · exact no_isi rfl rfl
theorem worses_no {ms : List V} (gm : ∀ v ∈ ms, v.Good) (lm : ms.length ≤ 20) : ∀ d ∈ [D.non, D.str ("1.0.0" : Str), D.lst (ms.map tD), D.tup (ms.map tD ++ [.str ("1" : Str)]), D.tup (List.replicate 21 (.str ("1.0.0" : Str))), D.dct [], D.int 0, D.tup [D.non]], NoT d := by
  have a9 : (ms.map tD).all (nice 8) = true := by
    rw [List.all_map]
    exact List.all_eq_true.mpr fun v hv => nice_t (gm v hv) 8
  have hlm : (ms.map tD).length ≤ 20 := by rw [List.length_map]; exact lm
  have n1 : NoV (.str ("1" : Str)) := no_str (by decide) (by decide +kernel)
  intro d hd
  simp only [List.mem_cons, List.not_mem_nil, or_false] at hd
  rcases hd with rfl | rfl | rfl | rfl | rfl | rfl | rfl | rfl
  · exact not_tup rfl rfl
  · exact not_tup rfl (nice_str (by decide))
  · exact not_tup rfl (nice_lst (by omega) a9)
  · by_cases c : ms.length < 20
    · refine some_bad2 (by simp; omega) (fun x hx => ?_) ⟨.str ("1" : Str), by simp, n1.no⟩ (by rw [List.all_append, a9]; simp [n1.n8])
      rcases List.mem_append.mp hx with z | z
      · obtain ⟨v, hv, rfl⟩ := List.mem_map.mp z
        exact ⟨_, Good.in_ (gm v hv)⟩
      · have : x = .str ("1" : Str) := by simpa using z
        subst this
        exact ⟨_, n1.no⟩
    · exact too_long (by simp; omega) (by simp; omega) (by rw [List.all_append, a9]; simp [n1.n8])
  · exact too_long (by simp) (by simp) (by rw [List.all_replicate]; simp [nice_str (k := 8) (x := ("1.0.0" : Str)) (by decide)])
  · exact not_tup rfl rfl
  · exact not_tup rfl rfl
  · exact some_bad (fun _ => .non) (by simp) (fun x hx => by
      have : x = .non := by simpa using hx
      subst this
      exact (no_isi rfl rfl : NoV .non).no) ⟨.non, by simp, rfl⟩ rfl
/-! what is no range -/
structure NoR (d : D) : Prop where
  no : m_rows_in [d] = pure .non
  n : nice 9 d = true
theorem nor_str {x : Str} (hl : x.length ≤ 800) (h : (rowsO x).isSome = false) : NoR (.str x) := by
  refine ⟨?_, nice_str (by omega)⟩
  rw [rows_in hl]
  cases e : rowsO x with
  | none => rfl
  | some y => rw [e] at h; cases h
theorem nor_isi {d : D} (h : Bi.isi "str" d = pure (.bl false)) (n : nice 9 d = true) : NoR d := by
  refine ⟨?_, n⟩
  unfold m_rows_in
  simp [h]
def s5 : Str := "* * * * *"
def a5 : Str := "=1.0.0 || =1.0.0 || =1.0.0 || =1.0.0 || =1.0.0"
def odds : List D := [.non, .int 0, .bl true, .str ("" : Str), .str (" " : Str), .str ("||" : Str), .str ("1.0.0" : Str), .str (">=1.0.0-a" : Str), .str ("^" : Str), .str ("* || " : Str), .dct [], .lst [.str ("*" : Str)], .tup [.str ("*" : Str)], .str s5, .str a5]
theorem odds_no : ∀ d ∈ odds, NoR d := by
  intro d hd
  unfold odds at hd
  simp only [List.mem_cons, List.not_mem_nil, or_false] at hd
  rcases hd with rfl | rfl | rfl | rfl | rfl | rfl | rfl | rfl | rfl | rfl | rfl | rfl | rfl | rfl | rfl
  · exact nor_isi rfl rfl
  · exact nor_isi rfl rfl
  · exact nor_isi rfl rfl
  iterate 7
    · exact nor_str (by decide) (by decide +kernel)
  · exact nor_isi rfl rfl
  · exact nor_isi rfl (nice_lst (by simp) (by simp [nice_str (k := 8) (x := ("*" : Str)) (by decide)]))
  · exact nor_isi rfl (nice_tup (by simp) (by simp [nice_str (k := 8) (x := ("*" : Str)) (by decide)]))
  · exact nor_str (by decide) (by decide +kernel)
  · exact nor_str (by decide) (by decide +kernel)
theorem rows_of_no {d : D} (h : NoR d) : m_rows_of [d] = ir d := by
  unfold m_rows_of
  simp only [pure_bind, h.no]
  rfl
theorem is_range_no {d : D} (h : NoR d) : m_is_range [d] = pure (.bl false) := by
  unfold m_is_range
  simp only [pure_bind, h.no]
  rfl
/-- a version and something else: no range -/
theorem said_r1 {v : V} {d : D} (g : v.Good) (h : NoR d) {i : Int} (hi : i = 0 ∨ i = 1) : m__law_said [.int i, tD v, d] = pure (badr d) :=
  funext fun s => said01 hi (.ir _ (by
    unfold m_in_range
    simp only [pure_bind, parts_V g, rows_of_no h, exc_bind]
    rfl))
theorem said_v1 {e d : D} (h : NoV e) {i : Int} (hi : i = 0 ∨ i = 1) : m__law_said [.int i, e, d] = pure (badv e) :=
  funext fun s => said01 hi (.iv _ (by
    unfold m_in_range
    simp only [pure_bind, parts_of_no h.no, exc_bind]
    rfl))
theorem said_r2 {vs : List V} {d : D} (g : ∀ v ∈ vs, v.Good) (hl : vs.length ≤ 20) (h : NoR d) {i : Int} (hi : i = 2 ∨ i = 3) : m__law_said [.int i, .tup (vs.map tD), d] = pure (badr d) :=
  funext fun s => said23 hi (.ir _ (by
    unfold m_best_in
    simp only [pure_bind]
    rw [are_yes g hl]
    simp only [pure_bind, truthB_bl, Bool.not_true, Bool.false_eq_true, if_false, rows_of_no h, exc_bind]
    rfl))
theorem said_t2 {e d : D} (h : NoT e) {i : Int} (hi : i = 2 ∨ i = 3) : m__law_said [.int i, e, d] = pure (badt e) :=
  funext fun s => said23 hi (.it _ (by
    unfold m_best_in
    simp only [pure_bind, h.no, truthB_bl, Bool.not_false, if_true]
    rfl))
end Pl

set_option maxRecDepth 100000
set_option autoImplicit false
set_option maxHeartbeats 2000000
/-! QD34: what is refused. -/
namespace Pl
open PySem DL TL Mi L2 PySem.W
theorem star4 : Op.mul (.str (" *" : Str)) (.int 4) = pure (.str (" * * * *" : Str)) := by rfl
theorem eqs4 : Op.mul (.str (" || =1.0.0" : Str)) (.int 4) = pure (.str (" || =1.0.0 || =1.0.0 || =1.0.0 || =1.0.0" : Str)) := by rfl
theorem add_s5 : Op.add (.str ("*" : Str)) (.str (" * * * *" : Str)) = pure (.str s5) := by
  rw [add_ss (by decide)]
  rfl
theorem add_a5 : Op.add (.str ("=1.0.0" : Str)) (.str (" || =1.0.0 || =1.0.0 || =1.0.0 || =1.0.0" : Str)) = pure (.str a5) := by
  rw [add_ss (by decide)]
  rfl
theorem mkL15 (a b c d e f g h i j k l m n o : D) : Op.mkL [a, b, c, d, e, f, g, h, i, j, k, l, m, n, o] = pure (.lst [a, b, c, d, e, f, g, h, i, j, k, l, m, n, o]) := rfl
theorem mkL8 (a b c d e f g h : D) : Op.mkL [a, b, c, d, e, f, g, h] = pure (.lst [a, b, c, d, e, f, g, h]) := rfl
theorem rng4 : rng1 [.int 4] = pure [.int 0, .int 1, .int 2, .int 3] := rfl
theorem ixt0 (x y : D) : Op.idx (.tup [x, y]) (.int 0) = pure x := idx_tup rfl
theorem ixt1 (x y : D) : Op.idx (.tup [x, y]) (.int 1) = pure y := idx_tup rfl
theorem isNon_rowsD (o : Option (List R2)) : Op.isNon (rowsD o) = o.isNone := by cases o <;> rfl
theorem same_bb (b : Bool) : m__law_same 12 [.lst [.bl b, .bl b], .lst [.bl b, .bl b]] = pure (.bl true) := same12 (by rfl)
theorem nice_bad {x : Str} (hx : x.length ≤ 100) {d : D} (h : nice 9 d = true) : nice 10 (.lst [.str x, d]) = true :=
  nice_lst (by simp) (by simp [nice_str (k := 9) (show x.length ≤ 1000 by omega), h])
theorem refused {n N : Nat} {s : Sto} (hb : Box n N s) (hN : N ≤ 100000) {t : Str} (ht : t.length ≤ 600) {ms : List V} (gm : ∀ v ∈ ms, v.Good) (lm : ms.length ≤ 20) {w : V} (gw : w.Good) : ∃ s', m__law_refused [.ref n, .str t, .tup (ms.map tD), tD w] s = .ok (.bl true) s' ∧ s'.any (isTab tabN) = true := by
  unfold m__law_refused
  simp only [pure_bind, bind_assoc, if_true]
  obtain ⟨u, s1, e1, lu, b1⟩ := bent hb (by omega) ht
  rw [bind_ok e1, law_rows (by omega), pure_bind, isNon_rowsD, is_range (by omega), pure_bind]
  simp only [List.nil_append, List.length_cons, List.length_nil, if_true, is_range (show u.length ≤ 800 by omega), pure_bind, mk2]
  rw [show (!(rowsO u).isNone) = (rowsO u).isSome from by cases rowsO u <;> rfl]
  have hbad : (rowsO u).isSome = false → NoR (.str u) := nor_str (by omega)
  generalize (rowsO u).isSome = good at hbad
  rw [same_bb]
  simp only [pure_bind, truthB_bl, Bool.not_true, Bool.false_eq_true, if_false, mkL1, mkT1, star4, eqs4, add_s5, add_a5, mkL15, bind_assoc]
  obtain ⟨j1, odd, s2, e2, x2, no, b2⟩ := pickP b1 (by omega) (xs := odds) (m := 15) rfl odds_no (by simp [odds])
  unfold odds at x2
  rw [bind_ok e2, x2, pure_bind]
  simp only [is_range_no no, pure_bind, mk2]
  rw [same_bb]
  simp only [pure_bind, truthB_bl, Bool.not_true, Bool.false_eq_true, if_false, mkL8]
  obtain ⟨j2, wrong, s3, e3, x3, nw, b3⟩ := pickP b2 (by omega) (xs := wrongs) (m := 8) rfl wrongs_no (by simp [wrongs])
  unfold wrongs at x3
  rw [bind_ok e3, x3, pure_bind, list_tup, pure_bind, add_tt (by simp; omega), pure_bind, mul21, pure_bind]
  obtain ⟨j3, worse, s4, e4, x4, nt, b4⟩ := pickP b3 (by omega) (m := 8) rfl (worses_no gm lm) (by simp)
  rw [bind_ok e4, x4, pure_bind, rng4, pure_bind]
  have n9 : nice 9 wrong = true := nice_up nw.n8 1
  refine forF_then (fun x hx => ?_) ⟨s4, rfl, b4.tab⟩
  have n1 : nice 11 (.lst [badr odd, badv wrong]) = true := nice_lst (by simp) (by simp [nice_bad (x := ("range" : Str)) (by decide) no.n, nice_bad (x := ("version" : Str)) (by decide) n9])
  have n2 : nice 11 (.lst [badr odd, badt worse]) = true := nice_lst (by simp) (by simp [nice_bad (x := ("range" : Str)) (by decide) no.n, nice_bad (x := ("versions" : Str)) (by decide) nt.n])
  have n3 : nice 11 (badr (.str u)) = true := nice_up (nice_bad (x := ("range" : Str)) (by decide) (nice_str (by omega))) 1
  have hx' : x = .int 0 ∨ x = .int 1 ∨ x = .int 2 ∨ x = .int 3 := by simpa using hx
  have go1 : ∀ i : Int, i = 0 ∨ i = 1 → (if good = false then (m__law_said [.int i, tD w, .str u] >>= fun x => m__law_same 12 [x, badr (.str u)] >>= truthB >>= fun b => pure (!b)) else pure false) = pure false := by
    intro i hi
    cases hg : good with
    | true => rfl
    | false =>
      rw [if_pos rfl, said_r1 gw (hbad hg) hi, pure_bind, same12 n3]
      rfl
  have go2 : ∀ i : Int, i = 2 ∨ i = 3 → (if good = false then (m__law_said [.int i, .tup (ms.map tD), .str u] >>= fun x => m__law_same 12 [x, badr (.str u)] >>= truthB >>= fun b => pure (!b)) else pure false) = pure false := by
    intro i hi
    cases hg : good with
    | true => rfl
    | false =>
      rw [if_pos rfl, said_r2 gm lm (hbad hg) hi, pure_bind, same12 n3]
      rfl
  have k1 : ∀ i : Int, i = 0 ∨ i = 1 → _ := fun i hi => And.intro (said_r1 gw no hi) (said_v1 (d := odd) nw hi)
  have k2 : ∀ i : Int, i = 2 ∨ i = 3 → _ := fun i hi => And.intro (said_r2 gm lm no hi) (said_t2 (d := odd) nt hi)
  rcases hx' with rfl | rfl | rfl | rfl
  · have g1 := go1 0 (.inl rfl)
    simp only [bind_assoc] at g1
    simp only [ltG_ii, pure_bind, truthB_bl, show decide ((0 : Int) < 2) = true from rfl, if_true, mk2t, ixt0, ixt1, (k1 0 (.inl rfl)).1, (k1 0 (.inl rfl)).2, same12 n1, Bool.not_true, Bool.false_eq_true, if_false]
    cases good with
    | true => rfl
    | false =>
      simp only [Bool.not_false, if_true]
      rw [said_r1 gw (hbad rfl) (.inl rfl), pure_bind, same12 n3]
      rfl
  · simp only [ltG_ii, pure_bind, truthB_bl, show decide ((1 : Int) < 2) = true from rfl, if_true, mk2t, ixt0, ixt1, (k1 1 (.inr rfl)).1, (k1 1 (.inr rfl)).2, same12 n1, Bool.not_true, Bool.false_eq_true, if_false]
    cases good with
    | true => rfl
    | false =>
      simp only [Bool.not_false, if_true]
      rw [said_r1 gw (hbad rfl) (.inr rfl), pure_bind, same12 n3]
      rfl
  · simp only [ltG_ii, pure_bind, truthB_bl, show decide ((2 : Int) < 2) = false from rfl, Bool.false_eq_true, if_false, mk2t, ixt0, ixt1, (k2 2 (.inl rfl)).1, (k2 2 (.inl rfl)).2, same12 n2, Bool.not_true]
    cases good with
    | true => rfl
    | false =>
      simp only [Bool.not_false, if_true]
      rw [said_r2 gm lm (hbad rfl) (.inl rfl), pure_bind, same12 n3]
      rfl
  · simp only [ltG_ii, pure_bind, truthB_bl, show decide ((3 : Int) < 2) = false from rfl, Bool.false_eq_true, if_false, mk2t, ixt0, ixt1, (k2 3 (.inr rfl)).1, (k2 3 (.inr rfl)).2, same12 n2, Bool.not_true]
    cases good with
    | true => rfl
    | false =>
      simp only [Bool.not_false, if_true]
      rw [said_r2 gm lm (hbad rfl) (.inr rfl), pure_bind, same12 n3]
      rfl
end Pl

set_option maxRecDepth 100000
set_option autoImplicit false
set_option maxHeartbeats 2000000
/-! QE34: one cell of the script. -/
namespace Pl
open PySem DL TL Mi L2 PySem.W
theorem compM_box {α : Type} {h : α → D} {n k : Nat} {f : D → M (Option D)} {P : α → Prop} (hf : ∀ (x : D) (s : Sto) (N : Nat), Box n N s → N ≤ 700000 → ∃ v s', f x s = .ok (some (h v)) s' ∧ P v ∧ Box n (N + k) s') :
    ∀ (xs : List D) (s : Sto) (N : Nat), Box n N s → N + k * xs.length ≤ 600000 → ∃ (vs : List α) (s' : Sto), compM f xs s = .ok (vs.map h) s' ∧ vs.length = xs.length ∧ (∀ v ∈ vs, P v) ∧ Box n (N + k * xs.length) s'
  | [], s, N, b, _ => ⟨[], s, rfl, rfl, by simp, b⟩
  | x :: xs, s, N, b, hN => by
    simp only [List.length_cons] at hN ⊢
    have hk : k * (xs.length + 1) = k * xs.length + k := Nat.mul_succ _ _
    obtain ⟨v, s1, e1, p1, b1⟩ := hf x s N b (by omega)
    obtain ⟨vs, s2, e2, l2, p2, b2⟩ := compM_box hf xs s1 (N + k) b1 (by omega)
    refine ⟨v :: vs, s2, ?_, by simp [l2], ?_, b2.mono (by omega)⟩
    · unfold compM
      have e1' : M.nx (f x) s = .ok (some (h v)) s1 := by unfold M.nx; rw [e1]
      rw [bind_ok e1', bind_ok e2]
      rfl
    · intro w hw
      rcases List.mem_cons.mp hw with z | z
      · exact z ▸ p1
      · exact p2 w z
/-- a comprehension that draws -/
theorem comp_then {α : Type} {h : α → D} {n k N : Nat} {f : D → M (Option D)} {P : α → Prop} {xs : List D} {s : Sto} {kk : D → M D}
    (b : Box n N s) (hN : N + k * xs.length ≤ 600000) (hl : xs.length ≤ 1000)
    (hf : ∀ (x : D) (s : Sto) (N : Nat), Box n N s → N ≤ 700000 → ∃ v s', f x s = .ok (some (h v)) s' ∧ P v ∧ Box n (N + k) s')
    (hk : ∀ (vs : List α) (s' : Sto), vs.length = xs.length → (∀ v ∈ vs, P v) → Box n (N + k * xs.length) s' → ∃ s'', kk (.lst (vs.map h)) s' = .ok (.bl true) s'' ∧ s''.any (isTab tabN) = true) :
    ∃ s'', (comp f xs >>= kk) s = .ok (.bl true) s'' ∧ s''.any (isTab tabN) = true := by
  obtain ⟨vs, s', e, l, p, b'⟩ := compM_box hf xs s N b hN
  have e2 : comp f xs s = .ok (.lst (vs.map h)) s' := by
    unfold comp
    rw [bind_ok e]
    unfold finL
    rw [lenOk_of (by rw [List.length_map]; omega)]
    rfl
  rw [bind_ok e2]
  exact hk vs s' l p b'
theorem whole_lt {a b c : Nat} (ha : a ≤ 9999) (hb : b ≤ 9999) (hc : c ≤ 9999) : whole a b c < END := by
  unfold whole END
  omega
theorem n3_add0 (a b c : Nat) : Op.add (n3 a b c) (.tup [.tup []]) = pure (vD a b c []) := n3_add a b c []
theorem due1 {rs : List R2} {t : Str} (ht : t.length ≤ 800) (hr : rowsO t = some rs) {n : Nat} (hn : n < END) {i : Int} (hi : i = 0 ∨ i = 1) : m__law_said [.int i, tD (vN n []), .str t] = pure (told (.bl (inR rs n))) := by
  rw [said_in (vN_good hn (by simp) (by simp)) ht hr hi]
  unfold inV
  rw [vN_w]
  rfl
theorem told2 (b : Bool) : m__law_same 12 [.lst [told (.bl b), told (.bl b)], .lst [told (.bl b), told (.bl b)]] = pure (.bl true) := same12 (by rfl)
def aN : List Wd := [.s "a", .n 1]
theorem aN_ok : (∀ w ∈ aN, w ∈ wmenu) ∧ aN.length ≤ 3 := by
  refine ⟨fun w hw => ?_, by decide⟩
  simp only [aN, List.mem_cons, List.not_mem_nil, or_false] at hw
  rcases hw with rfl | rfl <;> simp [wmenu]
theorem a0_ok : (∀ w ∈ [Wd.s "a"], w ∈ wmenu) ∧ [Wd.s "a"].length ≤ 3 := by
  refine ⟨fun w hw => ?_, by decide⟩
  simp only [List.mem_cons, List.not_mem_nil, or_false] at hw
  rcases hw with rfl
  simp [wmenu]
def wss : List (List Wd) := [[], [], [.s "a"]]
theorem wss_ok : ∀ ws ∈ wss, (∀ w ∈ ws, w ∈ wmenu) ∧ ws.length ≤ 3 := by
  intro ws hw
  simp only [wss, List.mem_cons, List.not_mem_nil, or_false] at hw
  rcases hw with rfl | rfl | rfl
  · exact ⟨by simp, by simp⟩
  · exact ⟨by simp, by simp⟩
  · exact a0_ok
theorem mkWss : Op.mkL [D.tup [], .tup [], .tup [.str ("a" : Str)]] = pure (.lst (wss.map fun ws => D.tup (ws.map Wd.d))) := rfl
theorem n3_add1 (a b c : Nat) (ws : List Wd) : Op.add (n3 a b c) (.tup [.tup (ws.map Wd.d)]) = pure (vD a b c ws) := rfl
theorem mkAN : Op.mkT [D.str ("a" : Str), .int 1] = pure (.tup (aN.map Wd.d)) := rfl
theorem lenN (ns : List Nat) : Bi.len [.lst (ns.map nD)] = pure (.int ((ns.length : Nat) : Int)) := by rw [len_lst, List.length_map]
/-- one of the numbers -/
theorem pickN {n N : Nat} {s : Sto} (hb : Box n N s) (hN : N ≤ 800000) {ns : List Nat} (h : ∀ d ∈ ns, d < END) (hl : 0 < ns.length ∧ ns.length < 1000) : ∃ (i : Nat) (q : Nat) (s' : Sto), m__law_take [.ref n, .int ((ns.length : Nat) : Int)] s = .ok (.int (i : Int)) s' ∧ Op.idx (.lst (ns.map nD)) (.int (i : Int)) = pure (nD q) ∧ q < END ∧ Box n (N + 1) s' := by
  obtain ⟨i, s1, e1, l1, b1⟩ := take (many := (ns.length : Int)) hb (by omega) (by omega)
  have hi : i < ns.length := by omega
  exact ⟨i, ns[i], s1, e1, by rw [idx_nat (by rw [List.length_map]; exact hi), List.getElem_map], h _ (List.getElem_mem hi), b1⟩
theorem comp_twoS {f : D → M (Option D)} {x y a b : D} {s : Sto} (h1 : f x s = .ok (some a) s) (h2 : f y s = .ok (some b) s) : comp f [x, y] s = .ok (.lst [a, b]) s := by
  have e1 : M.nx (f x) s = .ok (some a) s := by unfold M.nx; rw [h1]
  have e2 : M.nx (f y) s = .ok (some b) s := by unfold M.nx; rw [h2]
  unfold comp compM
  rw [bind_assoc, bind_ok e1]
  unfold compM
  rw [bind_assoc, bind_assoc, bind_ok e2]
  rfl
theorem nice_oT {o : Option V} (g : ∀ v ∈ o, v.Good) : nice 11 (.lst [told (oT o), told (oT o)]) = true := by
  have h : nice 9 (oT o) = true := by
    cases o with
    | none => rfl
    | some v => exact nice_t (g v rfl) 9
  exact nice_lst (by simp) (by simp [nice_bad (x := ("told" : Str)) (by decide) h])
theorem right {n N : Nat} {s : Sto} (hb : Box n N s) (hN : N ≤ 1000) : ∃ s', m__law_right [.ref n] s = .ok (.bl true) s' ∧ s'.any (isTab tabN) = true := by
  unfold m__law_right
  simp only [pure_bind, bind_assoc, if_true]
  obtain ⟨t, s1, e1, hs, lt, b1⟩ := range_ hb (by omega)
  rw [bind_ok e1, law_rows (by omega), pure_bind]
  obtain ⟨rs, hr⟩ := Option.isSome_iff_exists.mp hs
  have ht : t.length ≤ 800 := by omega
  have hrl := rows_le hr
  rw [hr]
  simp only [isNon_rowsD, Option.isNone_some, Bool.false_eq_true, if_false, List.nil_append, List.length_cons, List.length_nil, if_true, is_range ht, pure_bind, mk2, hr, Option.isSome_some]
  rw [same_bb]
  simp only [pure_bind, truthB_bl, Bool.not_true, Bool.false_eq_true, if_false]
  obtain ⟨ns, e2, l2, q2, p2⟩ := edges hrl (.ref n)
  rw [show rowsD (some rs) = .lst (rs.map rowD) from rfl, e2, pure_bind, rng4, pure_bind]
  refine comp_then (h := nD) (k := 10) (P := fun v => v < END) b1 (by simp; omega) (by simp) (fun x s N b hN => ?_) ?_
  · obtain ⟨a, b', c, s', e, ha, hb', hc, bb⟩ := base b (by omega)
    rw [bind_ok e, law_whole3, pure_bind]
    exact ⟨_, s', rfl, whole_lt ha hb' hc, bb⟩
  intro ms s2 l3 p3 b2
  rw [add_ll (by simp at l3 ⊢; omega), pure_bind, ← List.map_append]
  have l3' : ms.length = 4 := l3
  have hns : ∀ d ∈ ns ++ ms, d < END := fun d hd => (List.mem_append.mp hd).elim (p2 d) (p3 d)
  have hlen : 0 < (ns ++ ms).length ∧ (ns ++ ms).length < 1000 := by rw [List.length_append]; omega
  clear e2 l2 q2 p2 p3 l3 l3'
  generalize ns ++ ms = us at hns hlen
  rw [items_lst, pure_bind]
  refine forF_then (fun x hx => ?_) ?_
  · obtain ⟨u, hu, rfl⟩ := List.mem_map.mp hx
    have hu := hns u hu
    have gu : (vN u []).Good := vN_good hu (by simp) (by simp)
    have e3 : m__law_three [nD u] = pure (n3 (vN u []).a (vN u []).b (vN u []).c) := three hu
    have e4 : m__law_text [vD (vN u []).a (vN u []).b (vN u []).c []] = pure (tD (vN u [])) := ltext gu
    have e5 : m__law_in [.lst (rs.map rowD), nD u] = pure (.bl (inR rs u)) := law_in (by omega) u
    simp only [e3, pure_bind, mkT_nil, mkT1, n3_add0, e4, e5, mk2, rng2]
    rw [comp_two (a := told (.bl (inR rs u))) (b := told (.bl (inR rs u))) (by rw [due1 ht hr hu (.inl rfl)]; rfl) (by rw [due1 ht hr hu (.inr rfl)]; rfl), pure_bind, told2]
    rfl
  dsimp only [flK]
  obtain ⟨i1, u1, s3, e3, x3, h1, b3⟩ := pickN b2 (by simp; omega) hns hlen
  have g1 : (vN u1 aN).Good := vN_good h1 aN_ok.1 aN_ok.2
  have t1 : m__law_three [nD u1] = pure (n3 (vN u1 []).a (vN u1 []).b (vN u1 []).c) := three h1
  have t2 : m__law_text [vD (vN u1 []).a (vN u1 []).b (vN u1 []).c aN] = pure (tD (vN u1 aN)) := ltext g1
  rw [lenN, pure_bind, bind_ok e3, x3, pure_bind, t1, pure_bind, mkAN, pure_bind, mkT1, pure_bind, n3_add1, pure_bind, t2, pure_bind, rng2, pure_bind]
  have sf : ∀ i : Int, i = 0 ∨ i = 1 → m__law_said [.int i, tD (vN u1 aN), .str t] = pure (told (.bl false)) := fun i hi => by
    rw [said_in g1 ht hr hi]
    rfl
  rw [comp_two (a := told (.bl false)) (b := told (.bl false)) (by rw [sf 0 (.inl rfl)]; rfl) (by rw [sf 1 (.inr rfl)]; rfl), pure_bind]
  rw [mkL1, pure_bind, mulx2, pure_bind, told2, pure_bind, truthB_bl, pure_bind, if_neg (by simp)]
  obtain ⟨p, s4, e4, l4, b4⟩ := take (many := 21) b3 (by omega) (by simp; omega)
  rw [bind_ok e4, rng_n (show p ≤ 1000 by omega), pure_bind]
  have lp : ((List.range p).map fun i => D.int (0 + (i : Nat))).length = p := by rw [List.length_map, List.length_range]
  refine comp_then (h := V.d) (k := 2) (P := fun v => v.Good) b4 (by rw [lp]; simp; omega) (by rw [lp]; omega) (fun x s N b hN => ?_) ?_
  · obtain ⟨i2, u2, s', e, x, h2, b'⟩ := pickN b (by omega) hns hlen
    have t1 : m__law_three [nD u2] = pure (n3 (vN u2 []).a (vN u2 []).b (vN u2 []).c) := three h2
    obtain ⟨i3, s'', e', l', b''⟩ := take (many := 3) b' (by omega) (by omega)
    have hi3 : i3 < wss.length := by show i3 < 3; omega
    have hw := wss_ok _ (List.getElem_mem hi3)
    refine ⟨vN u2 wss[i3], s'', ?_, vN_good h2 hw.1 hw.2, b''⟩
    simp only [lenN, pure_bind]
    rw [bind_ok e, x, pure_bind, t1, pure_bind]
    simp only [mkT_nil, mkT1, pure_bind, mkWss]
    rw [bind_ok e', idx_nat (by rw [List.length_map]; exact hi3), pure_bind, List.getElem_map]
    rfl
  intro vs s5 l5 g5 b5
  rw [lp] at l5 b5
  rw [items_lst, pure_bind]
  have fb := forN_best (rs := rs) (body := bbody (.lst (rs.map rowD))) (fun o w => bbody_eq hrl o w) vs none
  unfold bbody at fb
  simp only [pure_bind, bind_assoc] at fb
  simp only [mkT_nil, pure_bind, bind_assoc]
  rw [show oD none = D.non from rfl] at fb
  rw [fb, pure_bind]
  have gb := best_good rs vs none g5 (by simp)
  generalize hbe : vs.foldl (lstep rs) none = best at gb
  have hbest := oT_text gb
  rw [hbest, pure_bind, items_lst, comp_mapF (g := tD) (fun v hv => by rw [ltext (g5 v hv)]; rfl) (by omega), pure_bind, tup_lst, pure_bind, pure_bind]
  have sb : ∀ i : Int, i = 2 ∨ i = 3 → m__law_said [.int i, .tup (vs.map tD), .str t] s5 = .ok (told (oT best)) s5 := fun i hi => by
    have := said_best g5 (by omega) ht hr b5.tab hi
    rw [hbe] at this
    exact this
  rw [bind_ok (comp_twoS (a := told (oT best)) (b := told (oT best)) (by rw [bind_ok (sb 2 (.inl rfl))]; rfl) (by rw [bind_ok (sb 3 (.inr rfl))]; rfl))]
  rw [same12 (nice_oT gb), pure_bind, truthB_bl, pure_bind, if_neg (by simp)]
  exact refused b5 (by simp; omega) lt g5 (by omega) g1
end Pl

set_option maxRecDepth 100000
set_option autoImplicit false
set_option maxHeartbeats 2000000
/-! PL34: the law. -/
namespace Pl
open PySem DL TL Mi L2 PySem.W
theorem mkL4 (a b c d : D) : Op.mkL [a, b, c, d] = pure (.lst [a, b, c, d]) := rfl
theorem ints_cut (ns : List Int) (lo hi : Option Int) : Op.cut (ns.map D.int) lo hi = (Op.cut ns lo hi).map D.int := by
  unfold Op.cut
  rw [List.length_map, List.map_take, List.map_drop]
theorem cell {ns : List Int} (hl : ns.length ≤ 63) (i : Nat) : ∃ v : Int, m__law_cell [.lst (ns.map D.int), .int (i : Int)] = pure (.int v) := by
  unfold m__law_cell
  simp only [pure_bind, len_lst, ltG_ii, truthB_bl, List.length_map]
  by_cases c : (i : Int) < (ns.length : Int)
  · simp only [c, decide_true, if_true]
    rw [idx_nat (by rw [List.length_map]; omega), List.getElem_map]
    exact ⟨_, rfl⟩
  · simp only [c, decide_false, Bool.false_eq_true, if_false, asInt_int, pure_bind]
    rw [show Op.slc (.lst (ns.map D.int)) none (some 1) = pure (.lst ((Op.cut ns none (some 1)).map D.int)) from by rw [← ints_cut]; rfl]
    rw [mulL (by omega)]
    simp only [pure_bind, bind_assoc]
    rw [show Bi.sum [.lst ((Op.cut ns none (some 1)).map D.int)] = pure (.int (Op.cut ns none (some 1)).sum) from by
      show Bi.opt (Bi.intsOf _) _ = _
      rw [Bi.ints_map]; rfl]
    simp only [pure_bind, int_int]
    rw [mod_ok (by omega)]
    exact ⟨_, rfl⟩
theorem box (g : Int) (s : Sto) (ht : s.any (isTab tabN) = true) : ∃ s', m__law_box [.int g] s = .ok (.ref s.length) s' ∧ Box s.length 0 s' := by
  unfold m__law_box
  have ha : Bi.abs [.int g] = pure (.int (if g < 0 then -g else g)) := rfl
  have hp : 0 ≤ (if g < 0 then -g else g) := by split <;> omega
  generalize (if g < 0 then -g else g) = q at ha hp
  have h10 : Op.pow (.int 10) (.int 18) = pure (.int (10 ^ 18)) := rfl
  simp only [pure_bind, ha, h10, geG_ii, int_int, bind_assoc]
  rw [mod_ok (by omega), pure_bind, mkL4, pure_bind]
  refine ⟨_, rfl, ⟨q, q % 2147483629, 0, decide (10 ^ 18 ≤ q), ?_, hp, Int.emod_nonneg _ (by omega), Int.emod_lt_of_pos _ (by omega), by omega, by omega, by rw [List.any_append, ht]; rfl⟩⟩
  rw [List.getElem?_append_right (by omega), Nat.sub_self]
  rfl
theorem law_loop {body : D → Unit → M (Fl Unit)} (hb : ∀ (i : Nat) (s : Sto), s.any (isTab tabN) = true → ∃ s', body (.int (0 + (i : Nat))) () s = .ok (.nx ()) s' ∧ s'.any (isTab tabN) = true) : ∀ (xs : List Nat) (s : Sto), s.any (isTab tabN) = true → ∃ s', forF body (xs.map fun i => D.int (0 + (i : Nat))) () s = .ok (.nx ()) s'
  | [], s, _ => ⟨s, rfl⟩
  | i :: xs, s, h => by
    obtain ⟨s1, e1, h1⟩ := hb i s h
    obtain ⟨s2, e2⟩ := law_loop hb xs s1 h1
    refine ⟨s2, ?_⟩
    rw [List.map_cons]
    unfold forF
    rw [bind_ok e1]
    exact e2
theorem law_true : ∀ ns : List Int, ns.length ≤ 63 → ∃ s', Mi.m_law [.lst (ns.map D.int)] ([(tabN : Str)].map fun x => D.set [.str x]) = .ok (.bl true) s' := by
  intro ns hl
  unfold m_law
  simp only [pure_bind, len_lst, List.length_map, bind_assoc]
  obtain ⟨m, hm, e⟩ : ∃ m : Nat, m ≤ 1000 ∧ (Bi.min [.int 6, .int (ns.length : Int)] >>= fun x => Bi.max [.int 3, x]) = pure (.int (m : Int)) := by
    have e1 : Bi.min [.int 6, .int (ns.length : Int)] = pure (.int (if (ns.length : Int) < 6 then (ns.length : Int) else 6)) := rfl
    rw [e1, pure_bind]
    have e2 : ∀ q : Int, Bi.max [.int 3, .int q] = pure (.int (if q > 3 then q else 3)) := fun _ => rfl
    rw [e2]
    refine ⟨(if (if (ns.length : Int) < 6 then (ns.length : Int) else 6) > 3 then (if (ns.length : Int) < 6 then (ns.length : Int) else 6) else 3).toNat, ?_, ?_⟩
    · split <;> split <;> omega
    · congr 2
      split <;> split <;> omega
  have e' : ∀ (k : D → M D), (Bi.min [.int 6, .int (ns.length : Int)] >>= fun x => Bi.max [.int 3, x] >>= k) = k (.int (m : Int)) := fun k => by rw [← bind_assoc, e, pure_bind]
  rw [e', rng_n hm, pure_bind]
  obtain ⟨s1, e1⟩ := law_loop (body := fun x13 t1 => m__law_cell [.lst (ns.map D.int), x13] >>= fun x => m__law_box [x] >>= fun x => m__law_right [x] >>= fun x => truthB x >>= fun x => if (!x) = true then pure (Fl.rt (D.bl false)) else pure (Fl.nx ())) (fun i s ht => by
    obtain ⟨v, ev⟩ := cell hl i
    rw [show (0 : Int) + ((i : Nat) : Int) = (i : Int) by omega, ev, pure_bind]
    obtain ⟨s1, e1, b1⟩ := box v s ht
    rw [bind_ok e1]
    obtain ⟨s2, e2, t2⟩ := right b1 (by omega)
    rw [bind_ok e2]
    exact ⟨s2, rfl, t2⟩) (List.range m) ([(tabN : Str)].map fun x => D.set [.str x]) (by decide)
  rw [bind_ok e1]
  exact ⟨s1, rfl⟩
end Pl

set_option maxRecDepth 100000
set_option maxHeartbeats 0
open PySem PySem.W PySem.Calls PyProof.Rows
theorem PySem.Challenge.cw_configbench_k34_ranges_holds : PySem.Challenge.rw_configbench_k34_ranges.Holds := by
  w_on; o_law
  refine HandSHeadRun.head_any (r := OpenLaw.row PySem.Challenge.rw_configbench_k34_ranges) (q := view (OpenLaw.row PySem.Challenge.rw_configbench_k34_ranges).prog [68]) (H := Hd.hk) (ob := Hd.ob) (M := 4000) (loose := Hd.loose) (d := HandSHeadRun.topDef (OpenLaw.row PySem.Challenge.rw_configbench_k34_ranges).prog 68) (kwd := []) Hd.ob_eq
    (by kernel_rfl) (fun s => by kernel_rfl) Hd.run (by kernel_rfl) (by kernel_rfl) (by kernel_rfl) (by rfl) (by first | assumption | decide +kernel) (by decide +kernel) ⟨rfl, rfl, rfl, rfl, rfl, by decide +kernel⟩ ?hw ?hc
  case hw => w_witness2
  case hc =>
    refine LamX.walk_ofTsE (l := PySem.Challenge.rw_configbench_k34_ranges) (n := 63) (k := 18) (x := "script") (CX := fun w => L2.CX (PySem.Challenge.rw_configbench_k34_ranges).prog w) rfl (by decide) (by kernel_rfl) ⟨rfl, by decide, by decide⟩ ?F (fun w H s e s' z => DL.cx_no H s e s' z)
    intro w mg fa h Y G hmg0
    obtain ⟨K, KX, c, e, t⟩ := Y
    have hmg : mg ("law" : PySem.Str) = some (.ref fa) := by
      have e : (HandSHeadRun.topDef (OpenLaw.row PySem.Challenge.rw_configbench_k34_ranges).prog 68).name = ("law" : PySem.Str) := by kernel_rfl
      rw [← e]
      exact hmg0
    obtain ⟨fd, hb, hF⟩ := Hd.facts (P := (PySem.Challenge.rw_configbench_k34_ranges).prog) (w := w) KX G hmg c e
    exact ⟨K, KX, DL.lawAtT KX t hb Pl.law_true fun base h1 h2 h3 => hF base h1 h2 h3⟩
#print axioms PySem.Challenge.cw_configbench_k34_ranges_holds
