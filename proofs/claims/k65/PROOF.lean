import PyProof.Rows.All
import Wide.All
import OpenK.AllK
import Wide.FinOn
import HandS.ForMost
import HandS.Exc
import HandS.TryOnly
import HandS.ExcOwn
import HandS.Deep
import HandS.SortRule
import HandS.IsInst
import HandS.WordsExc
import HandS.SortInts
import HandS.Wide
import HandS.Style
import HandS.TupAny
import HandS.Conv
import HandS.More
import HandS.DictSubView
import HandS.RevRange
import HandS.Rev
import PySem.Challenge.RW_carvebed_k65_whole_fewer_leave_the_same
set_option Elab.async false
set_option linter.all false
set_option maxRecDepth 100000
set_option maxHeartbeats 4000000
/-! A layer of values: what an expression or a statement does, as a plain function on trees.
Frozen things are trees of PyData; things that change have one owner, told by a map of the addresses. -/
namespace MV
open PySem PySem.Spec PyProof.Rows L2

/-! ### who owns an address -/
inductive Ow where
  | fr | out | mine (p : List Nat)
abbrev Om := Addr → Ow
/-- what a name holds: a frozen tree, or a thing of its own that may change -/
inductive O where
  | lf (w : PyData)
  | lst (os : List O)
  | dct (kvs : List (Key × O))
  | dcT (kvs : List (List Key × O))
  | dcL (kvs : List (List Key × O))
  | ins (n : Str) (fs : List (Str × O))
  | tup (os : List O)
abbrev En := List (Option O)
/-- what comes of a piece of the program: it stands still (bad), a value, or an exception of the class named -/
inductive Rs (α : Type) where
  | bad
  | ok (a : α) (e : En)
  | ex (c : Str) (e : En)
def Rs.bind {α β : Type} (r : Rs α) (k : α → En → Rs β) : Rs β := match r with
  | .bad => .bad
  | .ok a e => k a e
  | .ex c e => .ex c e
@[simp] theorem Rs.bind_ok {α β : Type} (a : α) (e : En) (k : α → En → Rs β) : (Rs.ok a e).bind k = k a e := rfl
@[simp] theorem Rs.bind_ex {α β : Type} (c : Str) (e : En) (k : α → En → Rs β) : (Rs.ex c e).bind k = .ex c e := rfl
@[simp] theorem Rs.bind_bad {α β : Type} (k : α → En → Rs β) : (Rs.bad).bind k = .bad := rfl

/-! ### trees in the heap -/
def KL (K : PySem.W.Frag) (a : Addr) (xs : List V) : Prop :=
  ∃ (o : Obj) (its : Array Value) (n : Nat), K.lookup a = some o ∧ o.cls = .type "list" ∧ o.dict = none ∧ o.data = .seq its n ∧ its.size ≤ sizeLine ∧ Vals xs its.toList
def FL (K : PySem.W.Frag) (ω : Om) (H : Hp) (a : Addr) (xs : List V) : Prop := (Rd H a (.lst xs) ∧ ω a = .fr) ∨ KL K a xs
def FT (K : PySem.W.Frag) (ω : Om) (H : Hp) (a : Addr) (xs : List V) : Prop := H a = some (.tup xs) ∧ ω a = .fr
/-- no thing that has an owner: nothing, or a tuple -/
def Nw : Option HO → Prop
  | none => True
  | some (.tup _) => True
  | _ => False
theorem Nw.of {o : Option HO} (h : o = none) : Nw o := by rw [h]; trivial
inductive RW (K : PySem.W.Frag) (ω : Om) (H : Hp) : V → PyData → Prop where
  | non : RW K ω H .non .none
  | bl (b : Bool) : RW K ω H (.bl b) (.bool b)
  | int (i : Int) : RW K ω H (.int i) (.int i)
  | str (x : Str) : RW K ω H (.str x) (.str x)
  | lst {a : Addr} {vs : List V} {ws : List PyData} : FL K ω H a vs → vs.length = ws.length → (∀ (i : Nat) v w, vs[i]? = some v → ws[i]? = some w → RW K ω H v w) → RW K ω H (.ref a) (.list ws)
  | tup {a : Addr} {vs : List V} {ws : List PyData} : FT K ω H a vs → vs.length = ws.length → (∀ (i : Nat) v w, vs[i]? = some v → ws[i]? = some w → RW K ω H v w) → RW K ω H (.ref a) (.tuple ws)
/-- lists of trees -/
def RWs (K : PySem.W.Frag) (ω : Om) (H : Hp) (vs : List V) (ws : List PyData) : Prop := vs.length = ws.length ∧ ∀ (i : Nat) v w, vs[i]? = some v → ws[i]? = some w → RW K ω H v w

/-- the class at C is the one named n; its instances may have these fields -/
structure ICls (K : PySem.W.Frag) (n : Str) (C : Addr) (vs : List (Str × V)) : Prop where
  nm : PySem.W.nsIn K PySem.mainGlobals n = some (some (.ref C))
  cl : Cls K C
  na : ∀ (i : Nat) f v, vs[i]? = some (f, v) → NoAttr K C f
  nd : (vs.map (·.1)).Nodup
inductive RO (K : PySem.W.Frag) (ω : Om) (H : Hp) : List Nat → V → O → Prop where
  | lf {p v w} : RW K ω H v w → RO K ω H p v (.lf w)
  | tup {p a} {vs : List V} {os : List O} : FT K ω H a vs → vs.length = os.length → (∀ (i : Nat) v o, vs[i]? = some v → os[i]? = some o → RO K ω H (p ++ [i]) v o) → RO K ω H p (.ref a) (.tup os)
  | lst {p a} {vs : List V} {os : List O} : ω a = .mine p → H a = some (.lst vs) → vs.length = os.length → (∀ (i : Nat) v o, vs[i]? = some v → os[i]? = some o → RO K ω H (p ++ [i]) v o) → RO K ω H p (.ref a) (.lst os)
  | dct {p a} {vs : List (Key × V)} {os : List (Key × O)} : ω a = .mine p → H a = some (.dK vs) → vs.length = os.length → (∀ (i : Nat) k v k' o, vs[i]? = some (k, v) → os[i]? = some (k', o) → k = k') → (∀ (i : Nat) k v k' o, vs[i]? = some (k, v) → os[i]? = some (k', o) → RO K ω H (p ++ [i]) v o) → RO K ω H p (.ref a) (.dct os)
  | dcT {p a} {vs : List (List Key × V)} {os : List (List Key × O)} : ω a = .mine p → H a = some (.dT vs) → vs.length = os.length → (∀ (i : Nat) k v k' o, vs[i]? = some (k, v) → os[i]? = some (k', o) → k = k') → (∀ (i : Nat) k v k' o, vs[i]? = some (k, v) → os[i]? = some (k', o) → RO K ω H (p ++ [i]) v o) → RO K ω H p (.ref a) (.dcT os)
  | dcL {p a od} {vs : List (List Key × V)} {os : List (List Key × O)} : ω a = .mine p → H a = some (.frz od (.dT vs)) → vs.length = os.length → (∀ (i : Nat) k v k' o, vs[i]? = some (k, v) → os[i]? = some (k', o) → k = k') → (∀ (i : Nat) k v k' o, vs[i]? = some (k, v) → os[i]? = some (k', o) → RO K ω H (p ++ [i]) v o) → RO K ω H p (.ref a) (.dcL os)
  | ins {p a C dx n} {vs : List (Str × V)} {os : List (Str × O)} : ω a = .mine p → H a = some (.ins C dx vs) → ICls K n C vs → vs.length = os.length → (∀ (i : Nat) k v k' o, vs[i]? = some (k, v) → os[i]? = some (k', o) → k = k') → (∀ (i : Nat) k v k' o, vs[i]? = some (k, v) → os[i]? = some (k', o) → RO K ω H (p ++ [i]) v o) → RO K ω H p (.ref a) (.ins n os)

/-! ### how a state goes on -/
structure Evo (ω : Om) (H : Hp) (ω' : Om) (H' : Hp) : Prop where
  fr : ∀ a o, H a = some o → ω a = .fr → ω' a = .fr ∧ H' a = some o
  out : ∀ a o, H a = some o → ω a = .out → ω' a = .out ∧ H' a = some o
  back : ∀ a, ω' a = .out → ω a = .out
  frz : ∀ a o u, H a = some (.frz o u) → H' a = some (.frz o u)
theorem Evo.refl (ω : Om) (H : Hp) : Evo ω H ω H := ⟨fun _ _ h e => ⟨e, h⟩, fun _ _ h e => ⟨e, h⟩, fun _ h => h, fun _ _ _ h => h⟩
theorem Evo.trans {ω ω1 ω2 : Om} {H H1 H2 : Hp} (a : Evo ω H ω1 H1) (b : Evo ω1 H1 ω2 H2) : Evo ω H ω2 H2 :=
  ⟨fun x o h e => let ⟨q, r⟩ := a.fr x o h e; b.fr x o r q, fun x o h e => let ⟨q, r⟩ := a.out x o h e; b.out x o r q, fun x h => a.back x (b.back x h), fun x o u h => b.frz x o u (a.frz x o u h)⟩
section
variable {K : PySem.W.Frag} {ω ω' : Om} {H H' : Hp} {v : V} {w : PyData} {o : O} {p p' : List Nat} {a : Addr} {xs : List V}
theorem FL.sq (h : FL K ω H a xs) : SqL K H a xs := h.elim (fun z => .inl z.1) .inr
theorem FT.sq (h : FT K ω H a xs) : SqT K H a xs := .inl (.inl h.1)
theorem FL.evo (ev : Evo ω H ω' H') (h : FL K ω H a xs) : FL K ω' H' a xs := by
  rcases h with ⟨h | ⟨o, h⟩, e⟩ | h
  · exact .inl ⟨.inl (ev.fr _ _ h e).2, (ev.fr _ _ h e).1⟩
  · exact .inl ⟨.inr ⟨o, (ev.fr _ _ h e).2⟩, (ev.fr _ _ h e).1⟩
  · exact .inr h
theorem FT.evo (ev : Evo ω H ω' H') (h : FT K ω H a xs) : FT K ω' H' a xs := ⟨(ev.fr _ _ h.1 h.2).2, (ev.fr _ _ h.1 h.2).1⟩
theorem RW.evo (ev : Evo ω H ω' H') (h : RW K ω H v w) : RW K ω' H' v w := by
  induction h with
  | non => exact .non
  | bl b => exact .bl b
  | int i => exact .int i
  | str x => exact .str x
  | lst f l _ ih => exact .lst (f.evo ev) l ih
  | tup f l _ ih => exact .tup (f.evo ev) l ih
abbrev EvoF (ω : Om) (H : Hp) (ω' : Om) (H' : Hp) : Prop := ∀ a o, H a = some o → ω a = .fr → ω' a = .fr ∧ H' a = some o
theorem FL.evoF (ev : EvoF ω H ω' H') (h : FL K ω H a xs) : FL K ω' H' a xs := by
  rcases h with ⟨h | ⟨o, h⟩, e⟩ | h
  · exact .inl ⟨.inl (ev _ _ h e).2, (ev _ _ h e).1⟩
  · exact .inl ⟨.inr ⟨o, (ev _ _ h e).2⟩, (ev _ _ h e).1⟩
  · exact .inr h
theorem FT.evoF (ev : EvoF ω H ω' H') (h : FT K ω H a xs) : FT K ω' H' a xs := ⟨(ev _ _ h.1 h.2).2, (ev _ _ h.1 h.2).1⟩
theorem RW.evoF (ev : EvoF ω H ω' H') (h : RW K ω H v w) : RW K ω' H' v w := by
  induction h with
  | non => exact .non
  | bl b => exact .bl b
  | int i => exact .int i
  | str x => exact .str x
  | lst f l _ ih => exact .lst (f.evoF ev) l ih
  | tup f l _ ih => exact .tup (f.evoF ev) l ih
theorem RWs.evo {vs : List V} {ws : List PyData} (ev : Evo ω H ω' H') (h : RWs K ω H vs ws) : RWs K ω' H' vs ws := ⟨h.1, fun i v w e1 e2 => (h.2 i v w e1 e2).evo ev⟩
theorem dpAll_of : ∀ {vs : List V} {ws : List PyData}, vs.length = ws.length → (∀ (i : Nat) v w, vs[i]? = some v → ws[i]? = some w → Dp K H v w) → DpAll K H vs ws
  | [], [], _, _ => .nil
  | v :: vs, w :: ws, l, h => .cons (h 0 v w rfl rfl) (dpAll_of (by simpa using l) fun i v' w' e1 e2 => h (i + 1) v' w' (by simpa using e1) (by simpa using e2))
  | [], _ :: _, l, _ => by simp at l
  | _ :: _, [], l, _ => by simp at l
theorem RW.dp (h : RW K ω H v w) : Dp K H v w := by
  induction h with
  | non => exact .non
  | bl b => exact .bl b
  | int i => exact .int i
  | str x => exact .str x
  | lst f l _ ih => exact .lst f.sq (dpAll_of l ih)
  | tup f l _ ih => exact .tup f.sq (dpAll_of l ih)

/-- THE CARRYING: all nodes of it, from one state to another, their places renamed -/
theorem RO.tr (h : RO K ω H p v o) : ∀ p', (∀ a x q, ω a = .mine (p ++ q) → H a = some x → ω' a = .mine (p' ++ q) ∧ H' a = some x) → (∀ a x, H a = some x → ω a = .fr → ω' a = .fr ∧ H' a = some x) → RO K ω' H' p' v o := by
  induction h with
  | lf r =>
    intro p' hm hf
    exact .lf (r.evoF hf)
  | tup f l _ ih =>
    intro p' hm hf
    exact .tup ⟨(hf _ _ f.1 f.2).2, (hf _ _ f.1 f.2).1⟩ l fun i v o q1 q2 => ih i v o q1 q2 (p' ++ [i]) (fun a x q z1 z2 => by have := hm a x ([i] ++ q) (by simpa using z1) z2; simpa using this) hf
  | lst e1 e2 l _ ih =>
    intro p' hm hf
    obtain ⟨h1, h2⟩ := hm _ _ [] (by simpa using e1) e2
    exact .lst (by simpa using h1) h2 l fun i v o q1 q2 => ih i v o q1 q2 (p' ++ [i]) (fun a x q z1 z2 => by have := hm a x ([i] ++ q) (by simpa using z1) z2; simpa using this) hf
  | dct e1 e2 l kk _ ih =>
    intro p' hm hf
    obtain ⟨h1, h2⟩ := hm _ _ [] (by simpa using e1) e2
    exact .dct (by simpa using h1) h2 l kk fun i k v k' o q1 q2 => ih i k v k' o q1 q2 (p' ++ [i]) (fun a x q z1 z2 => by have := hm a x ([i] ++ q) (by simpa using z1) z2; simpa using this) hf
  | dcT e1 e2 l kk _ ih =>
    intro p' hm hf
    obtain ⟨h1, h2⟩ := hm _ _ [] (by simpa using e1) e2
    exact .dcT (by simpa using h1) h2 l kk fun i k v k' o q1 q2 => ih i k v k' o q1 q2 (p' ++ [i]) (fun a x q z1 z2 => by have := hm a x ([i] ++ q) (by simpa using z1) z2; simpa using this) hf
  | dcL e1 e2 l kk _ ih =>
    intro p' hm hf
    obtain ⟨h1, h2⟩ := hm _ _ [] (by simpa using e1) e2
    exact .dcL (by simpa using h1) h2 l kk fun i k v k' o q1 q2 => ih i k v k' o q1 q2 (p' ++ [i]) (fun a x q z1 z2 => by have := hm a x ([i] ++ q) (by simpa using z1) z2; simpa using this) hf
  | ins e1 e2 ic l kk _ ih =>
    intro p' hm hf
    obtain ⟨h1, h2⟩ := hm _ _ [] (by simpa using e1) e2
    exact .ins (by simpa using h1) h2 ic l kk fun i k v k' o q1 q2 => ih i k v k' o q1 q2 (p' ++ [i]) (fun a x q z1 z2 => by have := hm a x ([i] ++ q) (by simpa using z1) z2; simpa using this) hf
end

/-- the names' things stand, each with its own places; B: no place's root is above -/
structure Good (K : PySem.W.Frag) (B : Nat) (ω : Om) (σ : L2.St) (H : Hp) (env : En) : Prop where
  rel : ∀ (i : Nat) o, env[i]? = some (some o) → ∃ v, σ[i]? = some (some v) ∧ RO K ω H [i] v o
  root : ∀ a p, ω a = .mine p → ∃ r q, p = r :: q ∧ r < B
  wf : ∀ a, Nw (H a) → ω a = .fr
  nB : env.length ≤ B
  len : σ.length = env.length

/-- all that was tracked is as it was, and whose it was -/
structure Quiet (ω : Om) (H : Hp) (ω' : Om) (H' : Hp) : Prop where
  same : ∀ a o, H a = some o → H' a = some o ∧ ω' a = ω a
  back : ∀ a, ω' a = .out → ω a = .out
theorem Quiet.evo {ω ω' : Om} {H H' : Hp} (h : Quiet ω H ω' H') : Evo ω H ω' H' :=
  ⟨fun a o e z => ⟨(h.same a o e).2.trans z, (h.same a o e).1⟩, fun a o e z => ⟨(h.same a o e).2.trans z, (h.same a o e).1⟩, h.back, fun a o u e => (h.same a _ e).1⟩
theorem Quiet.refl (ω : Om) (H : Hp) : Quiet ω H ω H := ⟨fun _ _ h => ⟨h, rfl⟩, fun _ h => h⟩
theorem Quiet.trans {ω ω1 ω2 : Om} {H H1 H2 : Hp} (a : Quiet ω H ω1 H1) (b : Quiet ω1 H1 ω2 H2) : Quiet ω H ω2 H2 :=
  ⟨fun x o h => let ⟨q, r⟩ := a.same x o h; let ⟨q', r'⟩ := b.same x o q; ⟨q', r'.trans r⟩, fun x h => a.back x (b.back x h)⟩
theorem Quiet.alloc {ω : Om} {H : Hp} {p : Addr} {u : HO} (hp : H p = none) : Quiet ω H ω (upd H p u) :=
  ⟨fun a o h => ⟨(upd_ne (ne_of_none h hp)).trans h, rfl⟩, fun _ h => h⟩
theorem RO.quiet {K : PySem.W.Frag} {ω ω' : Om} {H H' : Hp} {v : V} {o : O} {p : List Nat} (q : Quiet ω H ω' H') (h : RO K ω H p v o) : RO K ω' H' p v o :=
  h.tr p (fun a x r z e => ⟨(q.same a x e).2.trans z, (q.same a x e).1⟩) fun a x e z => ⟨(q.same a x e).2.trans z, (q.same a x e).1⟩
theorem Good.alloc {K : PySem.W.Frag} {B : Nat} {ω : Om} {σ : L2.St} {H : Hp} {env : En} {p : Addr} {u : HO} (G : Good K B ω σ H env) (hp : H p = none) : Good K B ω σ (upd H p u) env :=
  ⟨fun i o e => let ⟨v, h1, h2⟩ := G.rel i o e; ⟨v, h1, h2.quiet (.alloc hp)⟩, G.root, fun a h => by
    by_cases z : a = p
    · rw [z]; exact G.wf p (.of hp)
    · rw [upd_ne z] at h; exact G.wf a h, G.nB, G.len⟩

/-! ### what an expression comes to -/
/-- a frozen tree; or a thing with its owner, and the names if another thing stood in its place -/
inductive Vl where
  | lf (w : PyData)
  | pl (o : O) (up : O → En)
/-- the place p may be written, leaving v there -/
def Lens (K : PySem.W.Frag) (ω : Om) (σ : L2.St) (H : Hp) (p : List Nat) (v : V) (up : O → En) : Prop :=
  ∀ B ω' H' o', (∀ a x q, ω a = .mine q → ¬ p <+: q → H a = some x → ω' a = .mine q ∧ H' a = some x) → (∀ a x, H a = some x → ω a = .fr → ω' a = .fr ∧ H' a = some x) → RO K ω' H' p v o' →
    (∀ a q, ω' a = .mine q → ∃ r z, q = r :: z ∧ r < B) → (∀ a, Nw (H' a) → ω' a = .fr) → (∀ r q, p = r :: q → r < B) → (up o').length ≤ B → Good K B ω' σ H' (up o')
def RV (K : PySem.W.Frag) (ω : Om) (σ : L2.St) (H : Hp) (v : V) : Vl → Prop
  | .lf w => RW K ω H v w
  | .pl o up => ∃ p, RO K ω H p v o ∧ Lens K ω σ H p v up ∧ (∃ r q, p = r :: q) ∧ ∀ o', (up o').length = σ.length
theorem Lens.quiet {K : PySem.W.Frag} {ω ω' : Om} {σ : L2.St} {H H' : Hp} {p : List Nat} {v : V} {up : O → En} (q : Quiet ω H ω' H') (h : Lens K ω σ H p v up) : Lens K ω' σ H' p v up :=
  fun B ω2 H2 o' h1 h2 h3 h4 h5 h6 h7 => h B ω2 H2 o' (fun a x r z n e => h1 a x r ((q.same a x e).2.trans z) n (q.same a x e).1) (fun a x e z => h2 a x (q.same a x e).1 ((q.same a x e).2.trans z)) h3 h4 h5 h6 h7
theorem RV.quiet {K : PySem.W.Frag} {ω ω' : Om} {σ : L2.St} {H H' : Hp} {v : V} {x : Vl} (q : Quiet ω H ω' H') (h : RV K ω σ H v x) : RV K ω' σ H' v x := by
  cases x with
  | lf w => exact RW.evo q.evo h
  | pl o up => obtain ⟨p, h1, h2, h3⟩ := h; exact ⟨p, h1.quiet q, h2.quiet q, h3⟩
mutual
/-- the tree, whoever owns it -/
def O.er : O → Option PyData
  | .lf w => some w
  | .lst os => (O.ers os).map .list
  | .dct _ => none
  | .dcT _ => none
  | .dcL _ => none
  | .ins _ _ => none
  | .tup os => (O.ers os).map .tuple
def O.ers : List O → Option (List PyData)
  | [] => some []
  | o :: os => match o.er, O.ers os with
    | some w, some ws => some (w :: ws)
    | _, _ => none
end
/-- leaves alone -/
def lfs : List O → Option (List PyData)
  | [] => some []
  | .lf w :: os => (lfs os).map (w :: ·)
  | _ :: _ => none
def Vl.er : Vl → Option PyData
  | .lf w => some w
  | .pl o _ => o.er
/-- a list of frozen things, whoever owns the list -/
def Vl.items : Vl → Option (List PyData)
  | .lf (.list ws) => some ws
  | .pl (.lst os) _ => lfs os
  | _ => none
def Vl.titems : Vl → Option (List PyData)
  | .lf (.tuple ws) => some ws
  | _ => none
section
variable {K : PySem.W.Frag} {ω ω' : Om} {σ : L2.St} {H H' : Hp} {v : V} {w : PyData} {o : O} {p p' : List Nat} {a : Addr} {xs : List V}
theorem ers_get : ∀ {os : List O} {ws : List PyData}, O.ers os = some ws → os.length = ws.length ∧ ∀ (i : Nat) o w, os[i]? = some o → ws[i]? = some w → o.er = some w
  | [], ws, h => by
    rw [O.ers] at h; cases h; exact ⟨rfl, fun i o w e => by simp at e⟩
  | o :: os, ws, h => by
    rw [O.ers] at h
    cases e1 : o.er with
    | none => rw [e1] at h; cases h
    | some w =>
      cases e2 : O.ers os with
      | none => rw [e1, e2] at h; cases h
      | some ws' =>
        rw [e1, e2] at h; cases h
        obtain ⟨l, q⟩ := ers_get e2
        refine ⟨by simp [l], fun i o' w' z1 z2 => ?_⟩
        cases i with
        | zero => simp at z1 z2; subst z1; subst z2; exact e1
        | succ i => simp at z1 z2; exact q i o' w' z1 z2
theorem lfs_get : ∀ {os : List O} {ws : List PyData}, lfs os = some ws → os = ws.map O.lf
  | [], ws, h => by rw [lfs] at h; cases h; rfl
  | .lf w :: os, ws, h => by
    rw [lfs] at h
    cases e : lfs os with
    | none => rw [e] at h; cases h
    | some ws' => rw [e] at h; cases h; rw [lfs_get e]; rfl
  | .lst _ :: _, ws, h => by rw [lfs] at h <;> first | cases h | (intro w e; cases e)
  | .dct _ :: _, ws, h => by rw [lfs] at h <;> first | cases h | (intro w e; cases e)
  | .dcT _ :: _, ws, h => by rw [lfs] at h <;> first | cases h | (intro w e; cases e)
  | .dcL _ :: _, ws, h => by rw [lfs] at h <;> first | cases h | (intro w e; cases e)
  | .ins _ _ :: _, ws, h => by rw [lfs] at h <;> first | cases h | (intro w e; cases e)
  | .tup _ :: _, ws, h => by rw [lfs] at h <;> first | cases h | (intro w e; cases e)
@[simp] theorem lfs_map (ws : List PyData) : lfs (ws.map O.lf) = some ws := by
  induction ws with
  | nil => rfl
  | cons w ws ih => rw [List.map_cons, lfs, ih]; rfl
theorem RO.dp (h : RO K ω H p v o) : ∀ w, o.er = some w → Dp K H v w := by
  induction h with
  | lf r => intro w e; rw [O.er] at e; cases e; exact r.dp
  | @lst p a vs os e1 e2 l _ ih =>
    intro w e
    rw [O.er] at e
    cases q : O.ers os with
    | none => rw [q] at e; cases e
    | some ws =>
      rw [q] at e; cases e
      obtain ⟨l', g⟩ := ers_get q
      refine .lst (.inl (.inl e2)) (dpAll_of (l.trans l') fun i v w z1 z2 => ?_)
      have hi : i < os.length := by
        have := (List.getElem?_eq_some_iff.mp z1).1; omega
      exact ih i v os[i] z1 (List.getElem?_eq_getElem hi) w (g i _ w (List.getElem?_eq_getElem hi) z2)
  | @tup p a vs os f l _ ih =>
    intro w e
    rw [O.er] at e
    cases q : O.ers os with
    | none => rw [q] at e; cases e
    | some ws =>
      rw [q] at e; cases e
      obtain ⟨l', g⟩ := ers_get q
      refine .tup f.sq (dpAll_of (l.trans l') fun i v w z1 z2 => ?_)
      have hi : i < os.length := by
        have := (List.getElem?_eq_some_iff.mp z1).1; omega
      exact ih i v os[i] z1 (List.getElem?_eq_getElem hi) w (g i _ w (List.getElem?_eq_getElem hi) z2)
  | dct => intro w e; rw [O.er] at e; cases e
  | dcT => intro w e; rw [O.er] at e; cases e
  | dcL => intro w e; rw [O.er] at e; cases e
  | ins => intro w e; rw [O.er] at e; cases e
theorem RV.dp {x : Vl} (h : RV K ω σ H v x) (e : x.er = some w) : Dp K H v w := by
  cases x with
  | lf w' => cases e; exact RW.dp h
  | pl o up => obtain ⟨p, r, _⟩ := h; exact r.dp w e
theorem RV.items {x : Vl} {ws : List PyData} (h : RV K ω σ H v x) (e : x.items = some ws) : ∃ a vs, v = .ref a ∧ SqL K H a vs ∧ RWs K ω H vs ws := by
  cases x with
  | lf w =>
    cases w with
    | list ws' =>
      cases e
      have h : RW K ω H v (.list ws) := h
      cases h with
      | lst f l g => exact ⟨_, _, rfl, f.sq, l, g⟩
    | _ => cases e
  | pl o up =>
    obtain ⟨p, r, _⟩ := h
    cases o with
    | lst os =>
      have e' : lfs os = some ws := e
      have q := lfs_get e'
      subst q
      cases r with
      | lst e1 e2 l g =>
        refine ⟨_, _, rfl, .inl (.inl e2), by simpa using l, fun i v w z1 z2 => ?_⟩
        have := g i v (.lf w) z1 (by simp [z2])
        cases this with
        | lf r => exact r
    | _ => cases e
theorem RV.titems {x : Vl} {ws : List PyData} (h : RV K ω σ H v x) (e : x.titems = some ws) : ∃ a vs, v = .ref a ∧ SqT K H a vs ∧ RWs K ω H vs ws := by
  cases x with
  | lf w =>
    cases w with
    | tuple ws' =>
      cases e
      have h : RW K ω H v (.tuple ws) := h
      cases h with
      | tup f l g => exact ⟨_, _, rfl, f.sq, l, g⟩
    | _ => cases e
  | pl o up => cases e
/-- scalars -/
theorem Dp.int_ {i : Int} (h : Dp K H v (.int i)) : v = .int i := by cases h; rfl
theorem Dp.bool_ {i : Bool} (h : Dp K H v (.bool i)) : v = .bl i := by cases h; rfl
theorem Dp.str_ {i : Str} (h : Dp K H v (.str i)) : v = .str i := by cases h; rfl
theorem Dp.none_ (h : Dp K H v .none) : v = .non := by cases h; rfl
/-- a new frozen list, tuple -/
theorem RW.newL {K : PySem.W.Frag} {B : Nat} {ω : Om} {σ : L2.St} {H : Hp} {env : En} {p : Addr} {vs : List V} {ws : List PyData} (G : Good K B ω σ H env) (hp : H p = none) (r : RWs K ω H vs ws) : RW K ω (upd H p (.lst vs)) (.ref p) (.list ws) :=
  .lst (.inl ⟨.inl upd_same, G.wf p (.of hp)⟩) r.1 fun i v w e1 e2 => (r.2 i v w e1 e2).evo (Quiet.alloc hp).evo
theorem RW.newT {K : PySem.W.Frag} {B : Nat} {ω : Om} {σ : L2.St} {H : Hp} {env : En} {p : Addr} {vs : List V} {ws : List PyData} (G : Good K B ω σ H env) (hp : H p = none) (r : RWs K ω H vs ws) : RW K ω (upd H p (.tup vs)) (.ref p) (.tuple ws) :=
  .tup ⟨upd_same, G.wf p (.of hp)⟩ r.1 fun i v w e1 e2 => (r.2 i v w e1 e2).evo (Quiet.alloc hp).evo
theorem RWs.nil : RWs K ω H [] [] := ⟨rfl, fun i v w e => by simp at e⟩
theorem RWs.cons {vs : List V} {ws : List PyData} (h : RW K ω H v w) (t : RWs K ω H vs ws) : RWs K ω H (v :: vs) (w :: ws) :=
  ⟨by simp [t.1], fun i v' w' e1 e2 => by
    cases i with
    | zero => simp at e1 e2; subst e1; subst e2; exact h
    | succ i => simp at e1 e2; exact t.2 i v' w' e1 e2⟩
theorem RWs.append {vs us : List V} {ws ts : List PyData} (h : RWs K ω H vs ws) (t : RWs K ω H us ts) : RWs K ω H (vs ++ us) (ws ++ ts) :=
  ⟨by simp [h.1, t.1], fun i v' w' e1 e2 => by
    rw [List.getElem?_append] at e1 e2
    split at e1
    · rename_i z; rw [if_pos (by rw [← h.1]; exact z)] at e2; exact h.2 i v' w' e1 e2
    · rename_i z; rw [if_neg (by rw [← h.1]; exact z), ← h.1] at e2; exact t.2 _ v' w' e1 e2⟩
theorem RWs.drop {vs : List V} {ws : List PyData} (n : Nat) (h : RWs K ω H vs ws) : RWs K ω H (vs.drop n) (ws.drop n) :=
  ⟨by simp [h.1], fun i v' w' e1 e2 => h.2 (n + i) v' w' (by simpa using e1) (by simpa using e2)⟩
theorem RWs.take {vs : List V} {ws : List PyData} (n : Nat) (h : RWs K ω H vs ws) : RWs K ω H (vs.take n) (ws.take n) :=
  ⟨by simp [h.1], fun i v' w' e1 e2 => by
    rw [List.getElem?_take] at e1 e2
    split at e1
    · rename_i z; rw [if_pos z] at e2; exact h.2 i v' w' e1 e2
    · cases e1⟩
end
end MV
set_option Elab.async false
set_option linter.all false
set_option maxRecDepth 100000
set_option maxHeartbeats 4000000
namespace MV
open PySem PySem.Spec PyProof.Rows L2

/-! ### what is wanted behind an expression -/
section
variable (K : PySem.W.Frag) (mg : Str → Option Value) (W : WX)
def EPost {α : Type} (q : Bool) (B : Nat) (ω : Om) (σ : L2.St) (H : Hp) (P : α → En → Om → Hp → Prop) : Rs α → Prop
  | .bad => False
  | .ok a e => ∀ ω' H', Evo ω H ω' H' → (q = true → Quiet ω H ω' H') → Good K B ω' σ H' e → P a e ω' H'
  | .ex c e => ∀ ω' H' C, mg c = some (.ref C) → Evo ω H ω' H' → Good K B ω' σ H' e → W (.ref C) none σ H'
def PV (σ : L2.St) (Q : VK) : Vl → En → Om → Hp → Prop := fun x _ ω' H' => ∀ v, RV K ω' σ H' v x → Q v H'
/-- the reading te does what f says; q: it leaves all as it is -/
structure SE (q : Bool) (te : TE) (f : En → Rs Vl) : Prop where
  st : q = true → ∀ env x e, f env = .ok x e → e = env
  run : ∀ B ω σ H env Q, Good K B ω σ H env → EPost K mg W q B ω σ H (PV K σ Q) (f env) → te σ H Q
structure ST (q : Bool) (tt : TT) (f : En → Rs Bool) : Prop where
  st : q = true → ∀ env x e, f env = .ok x e → e = env
  run : ∀ B ω σ H env Q, Good K B ω σ H env → EPost K mg W q B ω σ H (fun b _ _ H' => Q b H') (f env) → tt σ H Q
/-- arguments -/
def RVs (ω : Om) (σ : L2.St) (H : Hp) (vs : List V) (xs : List Vl) : Prop := vs.length = xs.length ∧ ∀ (i : Nat) v x, vs[i]? = some v → xs[i]? = some x → RV K ω σ H v x
structure SA (q : Bool) (ta : TA) (f : En → Rs (List Vl)) : Prop where
  st : q = true → ∀ env x e, f env = .ok x e → e = env
  run : ∀ B ω σ H env Q, Good K B ω σ H env → EPost K mg W q B ω σ H (fun xs _ ω' H' => ∀ vs, RVs K ω' σ H' vs xs → Q vs H') (f env) → ta σ H Q
end
section
variable {K : PySem.W.Frag} {mg : Str → Option Value} {W : WX} {α β : Type} {q q1 q2 : Bool} {B : Nat} {ω ω' : Om} {σ : L2.St} {H H' : Hp} {env : En} {P P' : α → En → Om → Hp → Prop} {r : Rs α}
theorem EPost.imp (h : EPost K mg W q B ω σ H P r) (hi : ∀ a e ω' H', r = .ok a e → Evo ω H ω' H' → (q = true → Quiet ω H ω' H') → Good K B ω' σ H' e → P a e ω' H' → P' a e ω' H') : EPost K mg W q B ω σ H P' r := by
  cases r with
  | bad => exact h
  | ok a e => exact fun ω' H' ev qu G => hi a e ω' H' rfl ev qu G (h ω' H' ev qu G)
  | ex c e => exact h
theorem EPost.bind {k : α → En → Rs β} {P : β → En → Om → Hp → Prop} (h : EPost K mg W (q1 && q2) B ω σ H P (r.bind k)) : EPost K mg W q1 B ω σ H (fun a e ω1 H1 => EPost K mg W q2 B ω1 σ H1 P (k a e)) r := by
  cases r with
  | bad => exact h
  | ex c e => exact h
  | ok a e =>
    intro ω1 H1 ev qu G
    have h : EPost K mg W (q1 && q2) B ω σ H P (k a e) := h
    show EPost K mg W q2 B ω1 σ H1 P (k a e)
    cases z : k a e with
    | bad => rw [z] at h; exact h
    | ok b e' =>
      rw [z] at h
      intro ω2 H2 ev2 qu2 G2
      exact h ω2 H2 (ev.trans ev2) (fun w => by
        have := Bool.and_eq_true_iff.mp w
        exact (qu this.1).trans (qu2 this.2)) G2
    | ex c e' =>
      rw [z] at h
      intro ω2 H2 C hc ev2 G2
      exact h ω2 H2 C hc (ev.trans ev2) G2
theorem RVs.nil : RVs K ω σ H [] [] := ⟨rfl, fun i v w e => by simp at e⟩
theorem RVs.cons {v : V} {x : Vl} {vs : List V} {xs : List Vl} (h : RV K ω σ H v x) (t : RVs K ω σ H vs xs) : RVs K ω σ H (v :: vs) (x :: xs) :=
  ⟨by simp [t.1], fun i v' w' e1 e2 => by
    cases i with
    | zero => simp at e1 e2; subst e1; subst e2; exact h
    | succ i => simp at e1 e2; exact t.2 i v' w' e1 e2⟩
theorem RVs.cons_inv {vs : List V} {x : Vl} {xs : List Vl} (h : RVs K ω σ H vs (x :: xs)) : ∃ v us, vs = v :: us ∧ RV K ω σ H v x ∧ RVs K ω σ H us xs := by
  obtain ⟨l, g⟩ := h
  cases vs with
  | nil => simp at l
  | cons v us => exact ⟨v, us, rfl, g 0 v x rfl rfl, by simpa using l, fun i v' w' e1 e2 => g (i + 1) v' w' (by simpa using e1) (by simpa using e2)⟩
theorem RVs.nil_inv {vs : List V} (h : RVs K ω σ H vs []) : vs = [] := List.length_eq_zero_iff.mp (by simpa using h.1)
theorem Rs.bind_st {k : α → En → Rs β} {env e : En} {b : β} (h : r.bind k = .ok b e) : ∃ a e1, r = .ok a e1 ∧ k a e1 = .ok b e := by
  cases r with
  | bad => cases h
  | ex c e => cases h
  | ok a e1 => exact ⟨a, e1, rfl, h⟩
end
def Vl.isLf : Vl → Bool
  | .lf _ => true
  | .pl _ _ => false
theorem RV.keep {K : PySem.W.Frag} {ω ω' : Om} {σ : L2.St} {H H' : Hp} {v : V} {x : Vl} {q : Bool} (hq : (q || x.isLf) = true) (ev : Evo ω H ω' H') (qu : q = true → Quiet ω H ω' H') (h : RV K ω σ H v x) : RV K ω' σ H' v x := by
  cases x with
  | lf w => exact RW.evo ev h
  | pl o up =>
    have : q = true := by cases q with
      | true => rfl
      | false => cases hq
    exact h.quiet (qu this)

/-! ### the judgements over the text -/
structure VE (X : Cx) (W : WX) (q : Bool) (e : Expr) (f : En → Rs Vl) : Prop where
  ex : ∃ te, PE X e te ∧ SE X.K X.mg W q te f
structure VT (X : Cx) (W : WX) (q : Bool) (e : Expr) (f : En → Rs Bool) : Prop where
  ex : ∃ tt, PT X e tt ∧ ST X.K X.mg W q tt f
structure VA (X : Cx) (W : WX) (q : Bool) (es : List Expr) (f : En → Rs (List Vl)) : Prop where
  ex : ∃ ta, PA X es ta ∧ SA X.K X.mg W q ta f

/-! ### names, constants -/
def fVar (i : Nat) : En → Rs Vl := fun env => match env[i]? with
  | some (some (.lf w)) => .ok (.lf w) env
  | some (some o) => .ok (.pl o fun o' => env.set i (some o')) env
  | _ => .bad
def fC (w : PyData) : En → Rs Vl := fun env => .ok (.lf w) env
section
variable {X : Cx} {W : WX} {q q1 q2 : Bool} {e a b c : Expr} {pos : Pos} {f fa fb fc : En → Rs Vl}
theorem lens_slot {K : PySem.W.Frag} {B : Nat} {ω : Om} {σ : L2.St} {H : Hp} {env : En} {i : Nat} {v : V} (G : Good K B ω σ H env) (hv : σ[i]? = some (some v)) : Lens K ω σ H [i] v fun o' => env.set i (some o') := by
  intro B' ω' H' o' h1 h2 h3 h4 h5 h6 h7
  refine ⟨fun j o e => ?_, h4, h5, h7, by rw [List.length_set]; exact G.len⟩
  by_cases hj : j = i
  · subst hj
    have hl : j < env.length := by
      rw [← G.len]; exact (List.getElem?_eq_some_iff.mp hv).1
    rw [List.getElem?_set_self hl] at e
    cases e
    exact ⟨v, hv, h3⟩
  · rw [List.getElem?_set_ne (Ne.symm hj)] at e
    obtain ⟨u, e1, e2⟩ := G.rel j o e
    refine ⟨u, e1, e2.tr [j] (fun a x r z y => h1 a x _ z (fun ⟨t, ht⟩ => hj ?_) y) h2⟩
    simp at ht
    exact ht.1.symm
theorem ve_var {i : Nat} {x : Str} (hN : X.N[i]? = some x := by rfl) (hv : Vis X.env.scope x := by first | exact Or.inl rfl | exact Or.inr (Or.inl rfl) | exact Or.inr (Or.inr rfl)) (hd : (x == ("__debug__" : Str)) = false := by decide)
    (hcd : (x == ("__classdict__" : Str)) = false := by decide) : VE X W true (.Name x pos) (fVar i) := by
  refine ⟨_, pe_var hN hv hd hcd, ⟨fun _ env x e h => ?_, fun B ω σ H env Q G h => ?_⟩⟩
  · unfold fVar at h; split at h <;> cases h <;> rfl
  · unfold fVar at h
    split at h
    · rename_i w e
      obtain ⟨v, e1, e2⟩ := G.rel i _ e
      cases e2 with
      | lf r => exact ⟨v, e1, h ω H (.refl ω H) (fun _ => .refl ω H) G v r⟩
    · rename_i o hne e
      obtain ⟨v, e1, e2⟩ := G.rel i _ e
      refine ⟨v, e1, h ω H (.refl ω H) (fun _ => .refl ω H) G v ⟨[i], e2, lens_slot G e1, ⟨i, [], rfl⟩, fun o' => by rw [List.length_set]; exact G.len.symm⟩⟩
    · exact h.elim
theorem se_const {K : PySem.W.Frag} {mg : Str → Option Value} {v : V} {w : PyData} (hr : ∀ ω H, RW K ω H v w) : SE K mg W true (tC v) (fC w) :=
  ⟨fun _ env x e h => by cases h; rfl, fun B ω σ H env Q G h => h ω H (.refl ω H) (fun _ => .refl ω H) G v (hr ω H)⟩
theorem ve_int {i j} : VE X W true (.Constant (.int i) j pos) (fC (.int i)) := ⟨_, pe_int, se_const fun _ _ => .int i⟩
theorem ve_bool {i j} : VE X W true (.Constant (.bool i) j pos) (fC (.bool i)) := ⟨_, pe_bl, se_const fun _ _ => .bl i⟩
theorem ve_none {j} : VE X W true (.Constant .none j pos) (fC .none) := ⟨_, pe_non, se_const fun _ _ => .non⟩
theorem ve_str {x j} : VE X W true (.Constant (.str x) j pos) (fC (.str x)) := ⟨_, pe_str, se_const fun _ _ => .str x⟩
theorem ve_glob {x : Str} {v : V} {u : Value} {w : PyData} (hg : Gl X x) (hm : X.mg x = some u) (r : RelV v u) (hr : ∀ ω H, RW X.K ω H v w) (hd : (x == ("__debug__" : Str)) = false := by decide) : VE X W true (.Name x pos) (fC w) :=
  ⟨_, pe_glob hg hm r hd, se_const hr⟩

/-! ### two-place operations -/
abbrev G2 := Vl → Vl → Option PyData
/-- at values, the reading r does what g says -/
def OpS (K : PySem.W.Frag) (r : R2) (g : G2) : Prop := ∀ B ω σ H env x y a b z Q, Good K B ω σ H env → RV K ω σ H x a → RV K ω σ H y b → g a b = some z → (∀ ω' H' v, Quiet ω H ω' H' → Good K B ω' σ H' env → RW K ω' H' v z → Q v H') → r x y H Q
def fBin (q2 : Bool) (g : G2) (fa fb : En → Rs Vl) : En → Rs Vl := fun env => (fa env).bind fun x e => if q2 || x.isLf then (fb e).bind fun y e' => (match g x y with
  | some z => .ok (.lf z) e'
  | none => .bad) else .bad
theorem se_bin {K : PySem.W.Frag} {mg : Str → Option Value} {r : R2} {g : G2} {ta tb : TE} (hs : OpS K r g) (ha : SE K mg W q1 ta fa) (hb : SE K mg W q2 tb fb) : SE K mg W (q1 && q2) (tOp r ta tb) (fBin q2 g fa fb) := by
  refine ⟨fun hq env x e h => ?_, fun B ω σ H env Q G h => ?_⟩
  · obtain ⟨h1, h2⟩ := Bool.and_eq_true_iff.mp hq
    obtain ⟨a, e1, z1, z2⟩ := Rs.bind_st (env := env) h
    split at z2
    · obtain ⟨b, e2, z3, z4⟩ := Rs.bind_st (env := env) z2
      have r1 := ha.st h1 _ _ _ z1
      have r2 := hb.st h2 _ _ _ z3
      split at z4 <;> cases z4
      rw [r2, r1]
    · cases z2
  · refine ha.run B ω σ H env _ G ((EPost.bind h).imp fun x e ω1 H1 _ ev1 qu1 G1 h1 => fun v rv => ?_)
    split at h1
    · rename_i hq
      refine hb.run B ω1 σ H1 e _ G1 ((EPost.bind (q1 := q2) (q2 := true) (by rw [Bool.and_true]; exact h1)).imp fun y e' ω2 H2 _ ev2 qu2 G2 h2 => fun u ru => ?_)
      split at h2
      · rename_i z hz
        refine hs B ω2 σ H2 e' v u x y z Q G2 (rv.keep hq ev2 qu2) ru hz fun ω3 H3 w qu3 G3 r3 => ?_
        exact h2 ω3 H3 qu3.evo (fun _ => qu3) G3 w r3
      · exact h2.elim
    · exact h1.elim
theorem ve_bin {op : Operator} {r : R2} {g : G2} (ho : OpR X (binaryOp op) r) (hs : OpS X.K r g) (ha : VE X W q1 a fa) (hb : VE X W q2 b fb) : VE X W (q1 && q2) (.BinOp a op b pos) (fBin q2 g fa fb) := by
  obtain ⟨ta, pa, sa⟩ := ha.ex
  obtain ⟨tb, pb, sb⟩ := hb.ex
  exact ⟨_, pe_op ho pa pb, se_bin hs sa sb⟩
theorem ve_cmp {op : CmpOp} {r : R2} {g : G2} (ho : OpR X (compareOp op) r) (hs : OpS X.K r g) (ha : VE X W q1 a fa) (hb : VE X W q2 b fb) (hm : behindInMarks op b = false) : VE X W (q1 && q2) (.Compare a [op] [b] pos) (fBin q2 g fa fb) := by
  obtain ⟨ta, pa, sa⟩ := ha.ex
  obtain ⟨tb, pb, sb⟩ := hb.ex
  exact ⟨_, pe_cmpR ho pa pb hm, se_bin hs sa sb⟩
/-- a value that is a bool, as a test -/
def fTst (f : En → Rs Vl) : En → Rs Bool := fun env => (f env).bind fun x e => match x with
  | .lf (.bool b) => .ok b e
  | _ => .bad
theorem st_tst {K : PySem.W.Frag} {mg : Str → Option Value} {t : TE} (h : SE K mg W q t f) : ST K mg W q (tTest t) (fTst f) := by
  refine ⟨fun hq env x e z => ?_, fun B ω σ H env Q G z => ?_⟩
  · obtain ⟨a, e1, z1, z2⟩ := Rs.bind_st (env := env) z
    split at z2 <;> cases z2
    exact h.st hq _ _ _ z1
  · refine h.run B ω σ H env _ G ((EPost.bind (q1 := q) (q2 := true) (by rw [Bool.and_true]; exact z)).imp fun x e ω1 H1 _ ev1 qu1 G1 h1 => fun v rv => ?_)
    split at h1
    · rename_i b hfe
      have rv : RW K ω1 H1 v (.bool b) := rv
      cases rv
      exact ⟨b, rfl, h1 ω1 H1 (.refl _ _) (fun _ => .refl _ _) G1⟩
    · exact h1.elim
theorem vt_cmp {op : CmpOp} {r : R2} {g : G2} (ho : OpR X (compareOp op) r) (hs : OpS X.K r g) (ha : VE X W q1 a fa) (hb : VE X W q2 b fb) (hm : behindInMarks op b = false) : VT X W (q1 && q2) (.Compare a [op] [b] pos) (fTst (fBin q2 g fa fb)) := by
  obtain ⟨ta, pa, sa⟩ := ha.ex
  obtain ⟨tb, pb, sb⟩ := hb.ex
  exact ⟨_, pt_cmpR ho pa pb hm, st_tst (se_bin hs sa sb)⟩
end
end MV
set_option Elab.async false
set_option linter.all false
set_option maxRecDepth 100000
set_option maxHeartbeats 4000000
namespace MV
open PySem PySem.Spec PyProof.Rows L2

/-! ### operations on values -/
theorem OpS.imp {K : PySem.W.Frag} {r r' : R2} {g : G2} (h : OpS K r g) (hi : ∀ x y H Q, r x y H Q → r' x y H Q) : OpS K r' g :=
  fun B ω σ H env x y a b z Q G r1 r2 e q => hi _ _ _ _ (h B ω σ H env x y a b z Q G r1 r2 e q)
/-- two rules, by what the values are -/
def gOr (g g' : G2) : G2 := fun a b => match g a b with
  | some z => some z
  | none => g' a b
theorem OpS.or {K : PySem.W.Frag} {r r' : R2} {g g' : G2} (h : OpS K r g) (h' : OpS K r' g') : OpS K (fun x y H Q => r x y H Q ∨ r' x y H Q) (gOr g g') :=
  fun B ω σ H env x y a b z Q G r1 r2 e q => by
    unfold gOr at e
    split at e
    · rename_i w hw
      cases e
      exact .inl (h B ω σ H env x y a b _ Q G r1 r2 hw q)
    · exact .inr (h' B ω σ H env x y a b z Q G r1 r2 e q)
/-- ints in, a value out, under C -/
def gI (C : Int → Int → Bool) (f : Int → Int → PyData) : G2 := fun a b => match a, b with
  | .lf (.int i), .lf (.int j) => if C i j then some (f i j) else none
  | _, _ => none
theorem ops_rI {K : PySem.W.Frag} {C : Int → Int → Prop} {c : Int → Int → Bool} {g : Int → Int → V} {f : Int → Int → PyData} (hc : ∀ i j, c i j = true → C i j) (hg : ∀ ω H i j, RW K ω H (g i j) (f i j)) : OpS K (rI C g) (gI c f) := by
  intro B ω σ H env x y a b z Q G r1 r2 e q
  unfold gI at e
  split at e
  · rename_i i j
    split at e
    · rename_i hij
      cases e
      cases (show RW K ω H x (.int i) from r1)
      cases (show RW K ω H y (.int j) from r2)
      exact ⟨i, j, rfl, rfl, hc i j hij, q ω H _ (.refl _ _) G (hg ω H i j)⟩
    · cases e
  · cases e
theorem ops_rI0 {K : PySem.W.Frag} {g : Int → Int → V} {f : Int → Int → PyData} (hg : ∀ ω H i j, RW K ω H (g i j) (f i j)) : OpS K (rI0 g) (gI (fun _ _ => true) f) :=
  (ops_rI (C := fun _ _ => True) (fun _ _ _ => trivial) hg).imp fun x y H Q ⟨i, j, h1, h2, _, h⟩ => ⟨i, j, h1, h2, h⟩
/-- str + str -/
def gCatS : G2 := fun a b => match a, b with
  | .lf (.str x), .lf (.str y) => if x.length + y.length ≤ sizeLine then some (.str (x ++ y)) else none
  | _, _ => none
def rCatS : R2 := fun x y H Q => ∃ i j, x = .str i ∧ y = .str j ∧ i.length + j.length ≤ sizeLine ∧ Q (.str (i ++ j)) H
theorem ops_catS {K : PySem.W.Frag} : OpS K rCatS gCatS := by
  intro B ω σ H env x y a b z Q G r1 r2 e q
  unfold gCatS at e
  split at e
  · rename_i i j
    split at e
    · rename_i hij
      cases e
      cases (show RW K ω H x (.str i) from r1)
      cases (show RW K ω H y (.str j) from r2)
      exact ⟨i, j, rfl, rfl, hij, q ω H _ (.refl _ _) G (.str _)⟩
    · cases e
  · cases e
/-- list + list, any that may be read -/
def rCatL (K : PySem.W.Frag) : R2 := fun x y H Q => ∃ l b xs zs, x = .ref l ∧ y = .ref b ∧ SqL K H l xs ∧ SqL K H b zs ∧ xs.length + zs.length ≤ sizeLine ∧ ∀ p, H p = none → Q (.ref p) (upd H p (.lst (xs ++ zs)))
theorem op_catL {X : Cx} : OpR X (binaryOp .Add) (rCatL X.K) := by
  intro pins s σ H x y v u Q I rx ry h
  obtain ⟨l, b, xs, zs, rfl, rfl, hH, hB, hz, q⟩ := h
  cases rx
  cases ry
  obtain ⟨its, r, ⟨⟨cls, dd, data, sl⟩, n, ho, hc, _, hd⟩, _⟩ := I.list hH
  obtain ⟨its2, r2, ⟨⟨cls2, dd2, data2, sl2⟩, n2, ho2, hc2, _, hd2⟩, _⟩ := I.list hB
  simp only at hc hd hc2 hd2
  subst hc hd hc2 hd2
  have e1 := r.length
  have e2 := r2.length
  refine concat_meets ⟨_, ho, rfl⟩ ⟨_, ho2, rfl⟩ noFill_list_add seq_list_add PySem.F.slot_list_add PySem.F.entry_list_add (PySem.F.args_list_add_2 _ _) (list_addW l b its.toArray its2.toArray n n2 dd dd2 sl sl2 (by simp; omega)) ⟨ho, ho2, ?_⟩
  have ea : its.toArray ++ its2.toArray = (its ++ its2).toArray := by simp
  rw [ea]
  exact ⟨.ref _, _, I.lnew (t' := s.toks) (r.append r2) (by rw [List.length_append]; omega), rfl, q _ I.fresh⟩
def gCatL : G2 := fun a b => match a.items, b.items with
  | some xs, some ys => if xs.length + ys.length ≤ sizeLine then some (.list (xs ++ ys)) else none
  | _, _ => none
theorem ops_catL {K : PySem.W.Frag} : OpS K (rCatL K) gCatL := by
  intro B ω σ H env x y a b z Q G r1 r2 e q
  unfold gCatL at e
  split at e
  · rename_i xs ys h1 h2
    split at e
    · rename_i hl
      cases e
      obtain ⟨a1, vs, rfl, s1, w1⟩ := r1.items h1
      obtain ⟨a2, us, rfl, s2, w2⟩ := r2.items h2
      refine ⟨a1, a2, vs, us, rfl, rfl, s1, s2, by rw [w1.1, w2.1]; exact hl, fun p hp => ?_⟩
      exact q ω _ _ (.alloc hp) (G.alloc hp) (RW.newL G hp (w1.append w2))
    · cases e
  · cases e
/-- + -/
def gAdd : G2 := gOr (gI (fun _ _ => true) fun i j => .int (i + j)) (gOr gCatS gCatL)
def rAdd' (K : PySem.W.Frag) : R2 := fun x y H Q => rI0 (fun i j => .int (i + j)) x y H Q ∨ rCatS x y H Q ∨ rCatL K x y H Q
theorem op_addA {X : Cx} : OpR X (binaryOp .Add) (rAdd' X.K) := OpR.or op_add (OpR.or op_add_str op_catL)
theorem ops_add {K : PySem.W.Frag} : OpS K (rAdd' K) gAdd := OpS.or (ops_rI0 fun _ _ _ _ => .int _) (OpS.or ops_catS ops_catL)
def gSub : G2 := gI (fun _ _ => true) fun i j => .int (i - j)
theorem ops_sub {K : PySem.W.Frag} : OpS K (rI0 fun i j => .int (i - j)) gSub := ops_rI0 fun _ _ _ _ => .int _
/-- one factor below 2^64 -/
def cMul (i j : Int) : Bool := decide (i.natAbs < 2 ^ 64) || decide (j.natAbs < 2 ^ 64)
/-- str * int, list * int -/
def gMul : G2 := gI cMul fun i j => .int (i * j)
theorem ops_mul {K : PySem.W.Frag} : OpS K (rI CMul fun i j => .int (i * j)) gMul := ops_rI (fun i j h => by
  unfold cMul at h
  simp only [Bool.or_eq_true, decide_eq_true_eq] at h
  rcases h with h | h
  · exact .inl ⟨by omega, by omega⟩
  · exact .inr ⟨by omega, by omega⟩) fun _ _ _ _ => .int _
def gMod : G2 := gI (fun _ j => decide (0 < j)) fun i j => .int (i % j)
theorem ops_mod {K : PySem.W.Frag} : OpS K (rI (fun _ j => 0 < j) fun i j => .int (i % j)) gMod := ops_rI (fun i j h => of_decide_eq_true h) fun _ _ _ _ => .int _
/-- comparisons of ints -/
def gLt : G2 := gI (fun _ _ => true) fun i j => .bool (decide (i < j))
def gLe : G2 := gI (fun _ _ => true) fun i j => .bool (decide (i ≤ j))
def gGt : G2 := gI (fun _ _ => true) fun i j => .bool (decide (j < i))
def gGe : G2 := gI (fun _ _ => true) fun i j => .bool (decide (j ≤ i))
theorem ops_lt {K : PySem.W.Frag} : OpS K (rI0 fun i j => .bl (decide (i < j))) gLt := ops_rI0 fun _ _ _ _ => .bl _
theorem ops_le {K : PySem.W.Frag} : OpS K (rI0 fun i j => .bl (decide (i ≤ j))) gLe := ops_rI0 fun _ _ _ _ => .bl _
theorem ops_gt {K : PySem.W.Frag} : OpS K (rI0 fun i j => .bl (decide (j < i))) gGt := ops_rI0 fun _ _ _ _ => .bl _
theorem ops_ge {K : PySem.W.Frag} : OpS K (rI0 fun i j => .bl (decide (j ≤ i))) gGe := ops_rI0 fun _ _ _ _ => .bl _
/-- == and != of any data -/
def gEq : G2 := fun a b => match a.er, b.er with
  | some d, some e => if SeqAt.shaped d && SeqAt.shaped e then some (.bool (PyData.eqv d e)) else none
  | _, _ => none
def gNe : G2 := fun a b => match a.er, b.er with
  | some d, some e => if SeqAt.shaped d && SeqAt.shaped e then some (.bool (!PyData.eqv d e)) else none
  | _, _ => none
theorem ops_eq {K : PySem.W.Frag} : OpS K (rEqD K) gEq := by
  intro B ω σ H env x y a b z Q G r1 r2 e q
  unfold gEq at e
  split at e
  · rename_i d1 d2 h1 h2
    split at e
    · rename_i hs
      cases e
      obtain ⟨s1, s2⟩ := Bool.and_eq_true_iff.mp hs
      exact ⟨d1, d2, r1.dp h1, r2.dp h2, s1, s2, q ω H _ (.refl _ _) G (.bl _)⟩
    · cases e
  · cases e
theorem ops_ne {K : PySem.W.Frag} : OpS K (rNeD K) gNe := by
  intro B ω σ H env x y a b z Q G r1 r2 e q
  unfold gNe at e
  split at e
  · rename_i d1 d2 h1 h2
    split at e
    · rename_i hs
      cases e
      obtain ⟨s1, s2⟩ := Bool.and_eq_true_iff.mp hs
      exact ⟨d1, d2, r1.dp h1, r2.dp h2, s1, s2, q ω H _ (.refl _ _) G (.bl _)⟩
    · cases e
  · cases e
/-- is None, is not None -/
def isNone : PyData → Bool
  | .none => true
  | _ => false
def gIsN : G2 := fun a b => match a, b with
  | .lf w, .lf .none => some (.bool (isNone w))
  | _, _ => none
def gNotN : G2 := fun a b => match a, b with
  | .lf w, .lf .none => some (.bool (!isNone w))
  | _, _ => none
theorem RW.non_iff {K : PySem.W.Frag} {ω : Om} {H : Hp} {v : V} {w : PyData} (h : RW K ω H v w) : decide (v = .non) = isNone w := by
  cases h <;> simp [isNone]
theorem ops_isN {K : PySem.W.Frag} : OpS K (fun x y H Q => y = .non ∧ Q (.bl (decide (x = .non))) H) gIsN := by
  intro B ω σ H env x y a b z Q G r1 r2 e q
  unfold gIsN at e
  split at e
  · rename_i w
    cases e
    cases (show RW K ω H y .none from r2)
    refine ⟨rfl, ?_⟩
    rw [RW.non_iff (show RW K ω H x w from r1)]
    exact q ω H _ (.refl _ _) G (.bl _)
  · cases e
theorem ops_notN {K : PySem.W.Frag} : OpS K (fun x y H Q => y = .non ∧ Q (.bl (!decide (x = .non))) H) gNotN := by
  intro B ω σ H env x y a b z Q G r1 r2 e q
  unfold gNotN at e
  split at e
  · rename_i w
    cases e
    cases (show RW K ω H y .none from r2)
    refine ⟨rfl, ?_⟩
    rw [RW.non_iff (show RW K ω H x w from r1)]
    exact q ω H _ (.refl _ _) G (.bl _)
  · cases e
/-- in, not in: a list or tuple of data; == decides -/
def Vl.seqEr (b : Vl) : Option (List PyData) := match b.er with
  | some (.list ws) => some ws
  | some (.tuple ws) => some ws
  | _ => none
/-- lists, by deep == -/
def gInD (neg : Bool) : G2 := fun a b => match a.er, b.er with
  | some d, some (.list ds) => if SeqAt.shaped d && SeqAt.shaped (.list ds) then some (.bool (neg != ds.any fun z => PyData.eqv z d)) else none
  | _, _ => none
theorem ops_inD {K : PySem.W.Frag} : OpS K (rInD K) (gInD false) := by
  intro B ω σ H env x y a b z Q G r1 r2 e q
  unfold gInD at e
  split at e
  · rename_i d ds h1 h2
    split at e
    · rename_i hs
      cases e
      obtain ⟨s1, s2⟩ := Bool.and_eq_true_iff.mp hs
      refine ⟨d, ds, r1.dp h1, r2.dp h2, s1, s2, ?_⟩
      have := q ω H (.bl (false != ds.any fun z => PyData.eqv z d)) (.refl _ _) G (.bl _)
      simpa using this
    · cases e
  · cases e
theorem ops_notInD {K : PySem.W.Frag} : OpS K (rNotInD K) (gInD true) := by
  intro B ω σ H env x y a b z Q G r1 r2 e q
  unfold gInD at e
  split at e
  · rename_i d ds h1 h2
    split at e
    · rename_i hs
      cases e
      obtain ⟨s1, s2⟩ := Bool.and_eq_true_iff.mp hs
      refine ⟨d, ds, r1.dp h1, r2.dp h2, s1, s2, ?_⟩
      have := q ω H (.bl (true != ds.any fun z => PyData.eqv z d)) (.refl _ _) G (.bl _)
      simpa using this
    · cases e
  · cases e
/-- flat values -/
def wflat : PyData → Bool
  | .none => true
  | .bool _ => true
  | .int _ => true
  | .str _ => true
  | _ => false
theorem RW.flat {K : PySem.W.Frag} {ω : Om} {H : Hp} {v : V} {w : PyData} (h : RW K ω H v w) (f : wflat w = true) : flatV v = true := by
  cases h <;> first | rfl | cases f
theorem RW.eqv {K : PySem.W.Frag} {ω : Om} {H : Hp} {v v' : V} {w w' : PyData} (h : RW K ω H v w) (h' : RW K ω H v' w') (f : wflat w = true) (f' : wflat w' = true) : eqV v v' = PyData.eqv w w' := by
  cases h <;> first | cases f | skip
  all_goals cases h' <;> first | cases f' | skip
  all_goals first | rfl | simp [eqV, PyData.eqv]
/-- a flat value in a tuple (or list) of flat ones -/
def gInF (neg : Bool) : G2 := fun a b => match a, b.titems with
  | .lf w, some ws => if wflat w && ws.all wflat then some (.bool (neg != ws.any fun z => PyData.eqv z w)) else none
  | _, _ => none
theorem all_flat {K : PySem.W.Frag} {ω : Om} {H : Hp} : ∀ {vs : List V} {ws : List PyData}, RWs K ω H vs ws → ws.all wflat = true → vs.all flatV = true
  | [], _, _, _ => rfl
  | v :: vs, [], h, _ => by simp [RWs] at h
  | v :: vs, w :: ws, h, f => by
    rw [List.all_cons, Bool.and_eq_true] at f ⊢
    exact ⟨(h.2 0 v w rfl rfl).flat f.1, all_flat (ws := ws) ⟨by simpa using h.1, fun i v' w' e1 e2 => h.2 (i + 1) v' w' (by simpa using e1) (by simpa using e2)⟩ f.2⟩
theorem any_flat {K : PySem.W.Frag} {ω : Om} {H : Hp} {x : V} {w : PyData} (hx : RW K ω H x w) (fx : wflat w = true) : ∀ {vs : List V} {ws : List PyData}, RWs K ω H vs ws → ws.all wflat = true → inV x vs = ws.any fun z => PyData.eqv z w
  | [], [], _, _ => rfl
  | [], _ :: _, h, _ => by simp [RWs] at h
  | v :: vs, [], h, _ => by simp [RWs] at h
  | v :: vs, u :: ws, h, f => by
    rw [List.all_cons, Bool.and_eq_true] at f
    have := any_flat hx fx (vs := vs) (ws := ws) ⟨by simpa using h.1, fun i v' w' e1 e2 => h.2 (i + 1) v' w' (by simpa using e1) (by simpa using e2)⟩ f.2
    show (eqV v x || inV x vs) = _
    rw [List.any_cons, this, (h.2 0 v u rfl rfl).eqv hx f.1 fx]
theorem ops_inF {K : PySem.W.Frag} : OpS K (rIn K false) (gInF false) := by
  intro B ω σ H env x y a b z Q G r1 r2 e q
  unfold gInF at e
  split at e
  · rename_i w ws h2
    split at e
    · rename_i hs
      cases e
      obtain ⟨s1, s2⟩ := Bool.and_eq_true_iff.mp hs
      obtain ⟨p, vs, rfl, s, rr⟩ := r2.titems h2
      have r1 : RW K ω H x w := r1
      refine ⟨p, vs, rfl, .inr s, r1.flat s1, all_flat rr s2, ?_⟩
      have := q ω H (.bl (false != ws.any fun z => PyData.eqv z w)) (.refl _ _) G (.bl _)
      rw [any_flat r1 s1 rr s2]
      simpa using this
    · cases e
  · cases e
theorem ops_notInF {K : PySem.W.Frag} : OpS K (rIn K true) (gInF true) := by
  intro B ω σ H env x y a b z Q G r1 r2 e q
  unfold gInF at e
  split at e
  · rename_i w ws h2
    split at e
    · rename_i hs
      cases e
      obtain ⟨s1, s2⟩ := Bool.and_eq_true_iff.mp hs
      obtain ⟨p, vs, rfl, s, rr⟩ := r2.titems h2
      have r1 : RW K ω H x w := r1
      refine ⟨p, vs, rfl, .inr s, r1.flat s1, all_flat rr s2, ?_⟩
      have := q ω H (.bl (true != ws.any fun z => PyData.eqv z w)) (.refl _ _) G (.bl _)
      rw [any_flat r1 s1 rr s2]
      simpa using this
    · cases e
  · cases e
/-- one sign in a text -/
def gInC (neg : Bool) : G2 := fun a b => match a, b with
  | .lf (.str c), .lf (.str z) => if c.cps.size = 1 then some (.bool (neg != decide (c.cps.getD 0 0 ∈ z.cps.toList))) else none
  | _, _ => none
theorem str_one {c : Str} (h : c.cps.size = 1) : c = ⟨#[c.cps.getD 0 0]⟩ := by
  obtain ⟨cps⟩ := c
  congr 1
  have h : cps.size = 1 := h
  apply Array.ext
  · simpa using h
  · intro i h1 h2
    have : i = 0 := by omega
    subst this
    simp [Array.getD, h1]
theorem ops_inC {K : PySem.W.Frag} : OpS K (fun x y H Q => ∃ (c : Nat) (z : Str), x = .str ⟨#[c]⟩ ∧ y = .str z ∧ Q (.bl (decide (c ∈ z.cps.toList))) H) (gInC false) := by
  intro B ω σ H env x y a b z Q G r1 r2 e q
  unfold gInC at e
  split at e
  · rename_i c z
    split at e
    · rename_i hc
      cases e
      cases (show RW K ω H x (.str c) from r1)
      cases (show RW K ω H y (.str z) from r2)
      refine ⟨c.cps.getD 0 0, z, by rw [← str_one hc], rfl, ?_⟩
      have := q ω H (.bl (false != decide (c.cps.getD 0 0 ∈ z.cps.toList))) (.refl _ _) G (.bl _)
      simpa using this
    · cases e
  · cases e
theorem ops_notInC {K : PySem.W.Frag} : OpS K (fun x y H Q => ∃ (c : Nat) (z : Str), x = .str ⟨#[c]⟩ ∧ y = .str z ∧ Q (.bl (!decide (c ∈ z.cps.toList))) H) (gInC true) := by
  intro B ω σ H env x y a b z Q G r1 r2 e q
  unfold gInC at e
  split at e
  · rename_i c z
    split at e
    · rename_i hc
      cases e
      cases (show RW K ω H x (.str c) from r1)
      cases (show RW K ω H y (.str z) from r2)
      refine ⟨c.cps.getD 0 0, z, by rw [← str_one hc], rfl, ?_⟩
      have := q ω H (.bl (true != decide (c.cps.getD 0 0 ∈ z.cps.toList))) (.refl _ _) G (.bl _)
      simpa using this
    · cases e
  · cases e
end MV
set_option Elab.async false
set_option linter.all false
set_option maxRecDepth 100000
set_option maxHeartbeats 4000000
namespace MV
open PySem PySem.Spec PyProof.Rows L2
section
variable {X : Cx} {W : WX} {q q1 q2 q3 : Bool} {e a b c : Expr} {es rest : List Expr} {pos : Pos} {f fa fb fc : En → Rs Vl} {ga gb : En → Rs Bool} {K : PySem.W.Frag} {mg : Str → Option Value}

/-! ### chains, and, or, not -/
/-- a op b op c, of frozen things -/
def fChain (q2 q3 : Bool) (g g' : G2) (fa fb fc : En → Rs Vl) : En → Rs Vl := fun env => (fa env).bind fun x e => if q2 || x.isLf then (fb e).bind fun y e' => (match g x y with
  | some (.bool true) => if q3 || y.isLf then (fc e').bind fun z e2 => (match g' y z with
    | some t => .ok (.lf t) e2
    | none => .bad) else .bad
  | some (.bool false) => .ok (.lf (.bool false)) e'
  | _ => .bad) else .bad
theorem se_chain {r r' : R2} {g g' : G2} {ta tb tc : TE} (hs : OpS K r g) (hs' : OpS K r' g') (ha : SE K mg W q1 ta fa) (hb : SE K mg W q2 tb fb) (hc : SE K mg W q3 tc fc) : SE K mg W (q1 && (q2 && q3)) (tChain r r' ta tb tc) (fChain q2 q3 g g' fa fb fc) := by
  refine ⟨fun hq env x e h => ?_, fun B ω σ H env Q G h => ?_⟩
  · obtain ⟨h1, h23⟩ := Bool.and_eq_true_iff.mp hq
    obtain ⟨h2, h3⟩ := Bool.and_eq_true_iff.mp h23
    obtain ⟨a, e1, z1, z2⟩ := Rs.bind_st (env := env) h
    have r1 := ha.st h1 _ _ _ z1
    split at z2
    · obtain ⟨b, e2, z3, z4⟩ := Rs.bind_st (env := env) z2
      have r2 := hb.st h2 _ _ _ z3
      split at z4
      · split at z4
        · obtain ⟨c, e3, z5, z6⟩ := Rs.bind_st (env := env) z4
          have r3 := hc.st h3 _ _ _ z5
          split at z6 <;> cases z6
          rw [r3, r2, r1]
        · cases z4
      · cases z4; rw [r2, r1]
      · cases z4
    · cases z2
  · refine ha.run B ω σ H env _ G ((EPost.bind h).imp fun x e ω1 H1 _ ev1 qu1 G1 h1 => fun v rv => ?_)
    split at h1
    · rename_i hq
      refine hb.run B ω1 σ H1 e _ G1 ((EPost.bind (q1 := q2) (q2 := q3) h1).imp fun y e' ω2 H2 _ ev2 qu2 G2 h2 => fun u ru => ?_)
      split at h2
      · rename_i hz
        refine hs B ω2 σ H2 e' v u x y _ _ G2 (rv.keep hq ev2 qu2) ru hz fun ω3 H3 w qu3 G3 r3 => ?_
        cases r3
        refine ⟨true, rfl, ?_⟩
        rw [if_pos rfl]
        split at h2
        · rename_i hq3
          have h2' := EPost.bind (q1 := q3) (q2 := true) (by rw [Bool.and_true]; exact h2)
          -- carry along the quiet step
          have h2'' : EPost K mg W q3 B ω3 σ H3 (fun a e ω1 H1 => EPost K mg W true B ω1 σ H1 (PV K σ Q) (match g' y a with | some t => Rs.ok (Vl.lf t) e | none => Rs.bad)) (fc e') := by
            cases zz : fc e' with
            | bad => rw [zz] at h2'; exact h2'
            | ok aa ee =>
              rw [zz] at h2'
              intro ω4 H4 ev4 qu4 G4
              exact h2' ω4 H4 (qu3.evo.trans ev4) (fun t => qu3.trans (qu4 t)) G4
            | ex cc ee =>
              rw [zz] at h2'
              intro ω4 H4 C hC ev4 G4
              exact h2' ω4 H4 C hC (qu3.evo.trans ev4) G4
          refine hc.run B ω3 σ H3 e' _ G3 (h2''.imp fun z e2 ω4 H4 _ ev4 qu4 G4 h4 => fun t rt => ?_)
          split at h4
          · rename_i w hw
            refine hs' B ω4 σ H4 e2 u t y z w Q G4 ((ru.quiet qu3).keep hq3 ev4 qu4) rt hw fun ω5 H5 w' qu5 G5 r5 => ?_
            exact h4 ω5 H5 qu5.evo (fun _ => qu5) G5 w' r5
          · exact h4.elim
        · exact h2.elim
      · rename_i hz
        refine hs B ω2 σ H2 e' v u x y _ _ G2 (rv.keep hq ev2 qu2) ru hz fun ω3 H3 w qu3 G3 r3 => ?_
        cases r3
        refine ⟨false, rfl, ?_⟩
        rw [if_neg Bool.false_ne_true]
        exact h2 ω3 H3 qu3.evo (fun _ => qu3) G3 _ (.bl false)
      · exact h2.elim
    · exact h1.elim
theorem ve_chain {op op' : CmpOp} {r r' : R2} {g g' : G2} (ho : OpR X (compareOp op) r) (ho' : OpR X (compareOp op') r') (hs : OpS X.K r g) (hs' : OpS X.K r' g') (ha : VE X W q1 a fa) (hb : VE X W q2 b fb) (hc : VE X W q3 c fc)
    (hm : lastMarks [op, op'] [b, c] = false := by with_unfolding_all rfl) : VE X W (q1 && (q2 && q3)) (.Compare a [op, op'] [b, c] pos) (fChain q2 q3 g g' fa fb fc) := by
  obtain ⟨ta, pa, sa⟩ := ha.ex
  obtain ⟨tb, pb, sb⟩ := hb.ex
  obtain ⟨tc, pc, sc⟩ := hc.ex
  exact ⟨_, pe_chain ho ho' pa pb pc hm, se_chain hs hs' sa sb sc⟩
theorem vt_chain {op op' : CmpOp} {r r' : R2} {g g' : G2} (ho : OpR X (compareOp op) r) (ho' : OpR X (compareOp op') r') (hs : OpS X.K r g) (hs' : OpS X.K r' g') (ha : VE X W q1 a fa) (hb : VE X W q2 b fb) (hc : VE X W q3 c fc)
    (hm : lastMarks [op, op'] [b, c] = false := by with_unfolding_all rfl) : VT X W (q1 && (q2 && q3)) (.Compare a [op, op'] [b, c] pos) (fTst (fChain q2 q3 g g' fa fb fc)) := by
  obtain ⟨ta, pa, sa⟩ := ha.ex
  obtain ⟨tb, pb, sb⟩ := hb.ex
  obtain ⟨tc, pc, sc⟩ := hc.ex
  exact ⟨_, pt_chain ho ho' pa pb pc hm, st_tst (se_chain hs hs' sa sb sc)⟩

def fNotT (ga : En → Rs Bool) : En → Rs Bool := fun env => (ga env).bind fun x e => .ok (!x) e
def fAndT (ga gb : En → Rs Bool) : En → Rs Bool := fun env => (ga env).bind fun x e => if x then gb e else .ok false e
def fOrT (ga gb : En → Rs Bool) : En → Rs Bool := fun env => (ga env).bind fun x e => if x then .ok true e else gb e
theorem EPost.ok_here {α : Type} {B : Nat} {ω : Om} {σ : L2.St} {H : Hp} {P : α → En → Om → Hp → Prop} {x : α} {e : En} (G : Good K B ω σ H e) (h : EPost K mg W q B ω σ H P (.ok x e)) : P x e ω H := h ω H (.refl _ _) (fun _ => .refl _ _) G
theorem st_not {t : TT} (h : ST K mg W q t ga) : ST K mg W q (tNot t) (fNotT ga) := by
  refine ⟨fun hq env x e z => ?_, fun B ω σ H env Q G z => ?_⟩
  · obtain ⟨a, e1, z1, z2⟩ := Rs.bind_st (env := env) z
    cases z2; exact h.st hq _ _ _ z1
  · exact h.run B ω σ H env _ G ((EPost.bind (q1 := q) (q2 := true) (by rw [Bool.and_true]; exact z)).imp fun x e ω1 H1 _ ev1 qu1 G1 h1 => EPost.ok_here G1 h1)
theorem st_and {t u : TT} (h : ST K mg W q1 t ga) (h' : ST K mg W q2 u gb) : ST K mg W (q1 && q2) (tAnd t u) (fAndT ga gb) := by
  refine ⟨fun hq env x e z => ?_, fun B ω σ H env Q G z => ?_⟩
  · obtain ⟨h1, h2⟩ := Bool.and_eq_true_iff.mp hq
    obtain ⟨a, e1, z1, z2⟩ := Rs.bind_st (env := env) z
    have r1 := h.st h1 _ _ _ z1
    split at z2
    · rw [h'.st h2 _ _ _ z2, r1]
    · cases z2; exact r1
  · refine h.run B ω σ H env _ G ((EPost.bind z).imp fun x e ω1 H1 _ ev1 qu1 G1 h1 => ?_)
    cases x with
    | true => exact h'.run B ω1 σ H1 e _ G1 h1
    | false => exact EPost.ok_here G1 h1
theorem st_or {t u : TT} (h : ST K mg W q1 t ga) (h' : ST K mg W q2 u gb) : ST K mg W (q1 && q2) (tOr t u) (fOrT ga gb) := by
  refine ⟨fun hq env x e z => ?_, fun B ω σ H env Q G z => ?_⟩
  · obtain ⟨h1, h2⟩ := Bool.and_eq_true_iff.mp hq
    obtain ⟨a, e1, z1, z2⟩ := Rs.bind_st (env := env) z
    have r1 := h.st h1 _ _ _ z1
    split at z2
    · cases z2; exact r1
    · rw [h'.st h2 _ _ _ z2, r1]
  · refine h.run B ω σ H env _ G ((EPost.bind z).imp fun x e ω1 H1 _ ev1 qu1 G1 h1 => ?_)
    cases x with
    | false => exact h'.run B ω1 σ H1 e _ G1 h1
    | true => exact EPost.ok_here G1 h1
structure VW (X : Cx) (W : WX) (q : Bool) (e : Expr) (f : En → Rs Bool) : Prop where
  ex : ∃ tt, PW X e tt ∧ ST X.K X.mg W q tt f
theorem vw_and1 (h : VT X W q a ga) : VW X W q (.BoolOp .And [a] pos) ga := let ⟨_, p, s⟩ := h.ex; ⟨_, pw_and1 p, s⟩
theorem vw_or1 (h : VT X W q a ga) : VW X W q (.BoolOp .Or [a] pos) ga := let ⟨_, p, s⟩ := h.ex; ⟨_, pw_or1 p, s⟩
theorem vw_and (h : VT X W q1 a ga) (h' : VW X W q2 (.BoolOp .And (b :: rest) pos) gb) : VW X W (q1 && q2) (.BoolOp .And (a :: b :: rest) pos) (fAndT ga gb) :=
  let ⟨_, p, s⟩ := h.ex; let ⟨_, p', s'⟩ := h'.ex; ⟨_, pw_and p p', st_and s s'⟩
theorem vw_or (h : VT X W q1 a ga) (h' : VW X W q2 (.BoolOp .Or (b :: rest) pos) gb) : VW X W (q1 && q2) (.BoolOp .Or (a :: b :: rest) pos) (fOrT ga gb) :=
  let ⟨_, p, s⟩ := h.ex; let ⟨_, p', s'⟩ := h'.ex; ⟨_, pw_or p p', st_or s s'⟩
theorem VW.vt (h : VW X W q e ga) : VT X W q e ga := let ⟨_, p, s⟩ := h.ex; ⟨_, p.pt, s⟩
theorem vt_not (h : VT X W q a ga) : VT X W q (.UnaryOp .Not a pos) (fNotT ga) := let ⟨_, p, s⟩ := h.ex; ⟨_, pt_not p, st_not s⟩
/-- truth of a value -/
def Vl.truth : Vl → Option Bool
  | .lf .none => some false
  | .lf (.bool b) => some b
  | .lf (.int i) => some (i != 0)
  | .lf (.list ws) => some (!ws.isEmpty)
  | .lf (.tuple ws) => some (!ws.isEmpty)
  | _ => none
theorem RWs.empty {ω : Om} {H : Hp} {vs : List V} {ws : List PyData} (h : RWs K ω H vs ws) : vs.isEmpty = ws.isEmpty := by
  cases vs <;> cases ws <;> simp [RWs] at h ⊢
theorem RV.truth {ω : Om} {σ : L2.St} {H : Hp} {v : V} {x : Vl} {k : Bool} (h : RV K ω σ H v x) (e : x.truth = some k) : TruV K v H k := by
  cases x with
  | pl o up => cases e
  | lf w =>
    have h : RW K ω H v w := h
    cases h with
    | non => cases e; rfl
    | bl b => cases e; rfl
    | int i => cases e; rfl
    | str => cases e
    | lst f l g => cases e; exact .inl ⟨_, f.sq, by rw [RWs.empty ⟨l, g⟩]⟩
    | tup f l g => cases e; exact .inr (.inl ⟨_, f.sq, by rw [RWs.empty ⟨l, g⟩]⟩)
def fTru (f : En → Rs Vl) : En → Rs Bool := fun env => (f env).bind fun x e => match x.truth with
  | some k => .ok k e
  | none => .bad
theorem vt_tru (h : VE X W q a f) (he : ∀ whole, isTrue a X.env whole = (do let v ← whole; standAt a.pos; holding [v] (truthy v)) := by intro _; rfl) : VT X W q a (fTru f) := by
  obtain ⟨t, p, s⟩ := h.ex
  refine ⟨_, pt_truth p he, ⟨fun hq env x e z => ?_, fun B ω σ H env Q G z => ?_⟩⟩
  · obtain ⟨a, e1, z1, z2⟩ := Rs.bind_st (env := env) z
    split at z2 <;> cases z2
    exact s.st hq _ _ _ z1
  · refine s.run B ω σ H env _ G ((EPost.bind (q1 := q) (q2 := true) (by rw [Bool.and_true]; exact z)).imp fun x e ω1 H1 _ ev1 qu1 G1 h1 => fun v rv => ?_)
    split at h1
    · rename_i k hk
      exact ⟨k, rv.truth hk, EPost.ok_here G1 h1⟩
    · exact h1.elim
/-- and, or, not as values (bools) -/
def fAndV (fa fb : En → Rs Vl) : En → Rs Vl := fun env => (fa env).bind fun x e => match x with
  | .lf (.bool true) => fb e
  | .lf (.bool false) => .ok (.lf (.bool false)) e
  | _ => .bad
def fOrV (fa fb : En → Rs Vl) : En → Rs Vl := fun env => (fa env).bind fun x e => match x with
  | .lf (.bool false) => fb e
  | .lf (.bool true) => .ok (.lf (.bool true)) e
  | _ => .bad
def fNotV (fa : En → Rs Vl) : En → Rs Vl := fun env => (fa env).bind fun x e => match x with
  | .lf (.bool b) => .ok (.lf (.bool (!b))) e
  | _ => .bad
theorem ve_one {op} (h : VE X W q a f) : VE X W q (.BoolOp op [a] pos) f := let ⟨_, p, s⟩ := h.ex; ⟨_, pe_one p, s⟩
theorem ve_and (h : VE X W q1 a fa) (h' : VE X W q2 (.BoolOp .And (b :: rest) pos) fb) : VE X W (q1 && q2) (.BoolOp .And (a :: b :: rest) pos) (fAndV fa fb) := by
  obtain ⟨t, p, s⟩ := h.ex
  obtain ⟨t', p', s'⟩ := h'.ex
  refine ⟨_, pe_and p p', ⟨fun hq env x e z => ?_, fun B ω σ H env Q G z => ?_⟩⟩
  · obtain ⟨h1, h2⟩ := Bool.and_eq_true_iff.mp hq
    obtain ⟨a, e1, z1, z2⟩ := Rs.bind_st (env := env) z
    have r1 := s.st h1 _ _ _ z1
    split at z2
    · rw [s'.st h2 _ _ _ z2, r1]
    · cases z2; exact r1
    · cases z2
  · refine s.run B ω σ H env _ G ((EPost.bind z).imp fun x e ω1 H1 _ ev1 qu1 G1 h1 => fun v rv => ?_)
    split at h1
    · cases (show RW X.K ω1 H1 v (.bool true) from rv)
      exact ⟨true, rfl, by rw [if_pos rfl]; exact s'.run B ω1 σ H1 e _ G1 h1⟩
    · cases (show RW X.K ω1 H1 v (.bool false) from rv)
      exact ⟨false, rfl, by rw [if_neg Bool.false_ne_true]; exact EPost.ok_here G1 h1 _ (.bl false)⟩
    · exact h1.elim
theorem ve_or (h : VE X W q1 a fa) (h' : VE X W q2 (.BoolOp .Or (b :: rest) pos) fb) : VE X W (q1 && q2) (.BoolOp .Or (a :: b :: rest) pos) (fOrV fa fb) := by
  obtain ⟨t, p, s⟩ := h.ex
  obtain ⟨t', p', s'⟩ := h'.ex
  refine ⟨_, pe_or p p', ⟨fun hq env x e z => ?_, fun B ω σ H env Q G z => ?_⟩⟩
  · obtain ⟨h1, h2⟩ := Bool.and_eq_true_iff.mp hq
    obtain ⟨a, e1, z1, z2⟩ := Rs.bind_st (env := env) z
    have r1 := s.st h1 _ _ _ z1
    split at z2
    · rw [s'.st h2 _ _ _ z2, r1]
    · cases z2; exact r1
    · cases z2
  · refine s.run B ω σ H env _ G ((EPost.bind z).imp fun x e ω1 H1 _ ev1 qu1 G1 h1 => fun v rv => ?_)
    split at h1
    · cases (show RW X.K ω1 H1 v (.bool false) from rv)
      exact ⟨false, rfl, by rw [if_neg Bool.false_ne_true]; exact s'.run B ω1 σ H1 e _ G1 h1⟩
    · cases (show RW X.K ω1 H1 v (.bool true) from rv)
      exact ⟨true, rfl, by rw [if_pos rfl]; exact EPost.ok_here G1 h1 _ (.bl true)⟩
    · exact h1.elim
theorem ve_not (h : VE X W q a fa) : VE X W q (.UnaryOp .Not a pos) (fNotV fa) := by
  obtain ⟨t, p, s⟩ := h.ex
  refine ⟨_, pe_not p, ⟨fun hq env x e z => ?_, fun B ω σ H env Q G z => ?_⟩⟩
  · obtain ⟨a, e1, z1, z2⟩ := Rs.bind_st (env := env) z
    split at z2 <;> cases z2
    exact s.st hq _ _ _ z1
  · refine s.run B ω σ H env _ G ((EPost.bind (q1 := q) (q2 := true) (by rw [Bool.and_true]; exact z)).imp fun x e ω1 H1 _ ev1 qu1 G1 h1 => fun v rv => ?_)
    split at h1
    · rename_i b hfe
      cases (show RW X.K ω1 H1 v (.bool b) from rv)
      exact ⟨b, rfl, EPost.ok_here G1 h1 _ (.bl _)⟩
    · exact h1.elim
/-- -a -/
def fNeg (fa : En → Rs Vl) : En → Rs Vl := fun env => (fa env).bind fun x e => match x with
  | .lf (.int i) => .ok (.lf (.int (-i))) e
  | _ => .bad
theorem ve_neg (h : VE X W q a fa) : VE X W q (.UnaryOp .USub a pos) (fNeg fa) := by
  obtain ⟨t, p, s⟩ := h.ex
  refine ⟨_, pe_un un_neg p, ⟨fun hq env x e z => ?_, fun B ω σ H env Q G z => ?_⟩⟩
  · obtain ⟨a, e1, z1, z2⟩ := Rs.bind_st (env := env) z
    split at z2 <;> cases z2
    exact s.st hq _ _ _ z1
  · refine s.run B ω σ H env _ G ((EPost.bind (q1 := q) (q2 := true) (by rw [Bool.and_true]; exact z)).imp fun x e ω1 H1 _ ev1 qu1 G1 h1 => fun v rv => ?_)
    split at h1
    · rename_i i hfe
      cases (show RW X.K ω1 H1 v (.int i) from rv)
      exact ⟨i, rfl, EPost.ok_here G1 h1 _ (.int _)⟩
    · exact h1.elim
end
end MV
set_option Elab.async false
set_option linter.all false
set_option maxRecDepth 100000
set_option maxHeartbeats 4000000
namespace MV
open PySem PySem.Spec PyProof.Rows L2
section
variable {X : Cx} {W : WX} {q q1 q2 q3 : Bool} {e a b c : Expr} {es rest : List Expr} {pos : Pos} {f fa fb fc : En → Rs Vl} {ga gb : En → Rs Bool} {K : PySem.W.Frag} {mg : Str → Option Value}

/-! ### subscripts -/
def OpV (K : PySem.W.Frag) (r : R2) (g : Vl → Vl → Option Vl) : Prop := ∀ B ω σ H env x y a b z Q, Good K B ω σ H env → RV K ω σ H x a → RV K ω σ H y b → g a b = some z → (∀ ω' H' v, Quiet ω H ω' H' → Good K B ω' σ H' env → RV K ω' σ H' v z → Q v H') → r x y H Q
def fBinV (q2 : Bool) (g : Vl → Vl → Option Vl) (fa fb : En → Rs Vl) : En → Rs Vl := fun env => (fa env).bind fun x e => if q2 || x.isLf then (fb e).bind fun y e' => (match g x y with
  | some z => .ok z e'
  | none => .bad) else .bad
theorem se_binV {r : R2} {g : Vl → Vl → Option Vl} {ta tb : TE} (hs : OpV K r g) (ha : SE K mg W q1 ta fa) (hb : SE K mg W q2 tb fb) : SE K mg W (q1 && q2) (tOp r ta tb) (fBinV q2 g fa fb) := by
  refine ⟨fun hq env x e h => ?_, fun B ω σ H env Q G h => ?_⟩
  · obtain ⟨h1, h2⟩ := Bool.and_eq_true_iff.mp hq
    obtain ⟨a, e1, z1, z2⟩ := Rs.bind_st (env := env) h
    split at z2
    · obtain ⟨b, e2, z3, z4⟩ := Rs.bind_st (env := env) z2
      have r1 := ha.st h1 _ _ _ z1
      have r2 := hb.st h2 _ _ _ z3
      split at z4 <;> cases z4
      rw [r2, r1]
    · cases z2
  · refine ha.run B ω σ H env _ G ((EPost.bind h).imp fun x e ω1 H1 _ ev1 qu1 G1 h1 => fun v rv => ?_)
    split at h1
    · rename_i hq
      refine hb.run B ω1 σ H1 e _ G1 ((EPost.bind (q1 := q2) (q2 := true) (by rw [Bool.and_true]; exact h1)).imp fun y e' ω2 H2 _ ev2 qu2 G2 h2 => fun u ru => ?_)
      split at h2
      · rename_i z hz
        refine hs B ω2 σ H2 e' v u x y z Q G2 (rv.keep hq ev2 qu2) ru hz fun ω3 H3 w qu3 G3 r3 => ?_
        exact h2 ω3 H3 qu3.evo (fun _ => qu3) G3 w r3
      · exact h2.elim
    · exact h1.elim
theorem getElem_atI {α : Type} {xs : List α} {i : Int} {j : Nat} (h : ixN xs.length i = some j) : atI xs i = xs[j]? := by
  unfold atI; rw [h]; rfl
theorem atI_map {α β : Type} {xs : List α} {ys : List β} (hl : xs.length = ys.length) {i : Int} {y : β} (h : atI ys i = some y) : ∃ (j : Nat) (x : α), ixN xs.length i = some j ∧ xs[j]? = some x ∧ atI xs i = some x ∧ ys[j]? = some y ∧ ixN ys.length i = some j := by
  unfold atI at h
  cases hj : ixN ys.length i with
  | none => rw [hj] at h; cases h
  | some j =>
    rw [hj] at h
    have h : ys[j]? = some y := h
    have hlt : j < xs.length := by rw [hl]; exact (List.getElem?_eq_some_iff.mp h).1
    refine ⟨j, xs[j], by rw [hl]; exact hj, by simp [hlt], ?_, h, rfl⟩
    rw [getElem_atI (by rw [hl]; exact hj)]
    simp [hlt]
/-- a child of a list of one's own -/
theorem lens_lst {ω : Om} {σ : L2.St} {H : Hp} {p : List Nat} {v u : V} {os : List O} {o : O} {up : O → En} {j : Nat} (L : Lens K ω σ H p v up) (r : RO K ω H p v (.lst os)) (hp : ∃ a z, p = a :: z)
    (ho : os[j]? = some o) : ∀ vs a, v = .ref a → H a = some (.lst vs) → vs[j]? = some u → Lens K ω σ H (p ++ [j]) u fun o' => up (.lst (os.set j o')) := by
  intro vs a hv hH hu B ω' H' o' h1 h2 h3 h4 h5 h6 h7
  subst hv
  cases r with
  | @lst _ _ vs' _ e1 e2 l g =>
    rw [hH] at e2; cases e2
    have np : ¬ (p ++ [j]) <+: p := fun ⟨t, ht⟩ => by
      have := congrArg List.length ht
      simp at this
    obtain ⟨w1, w2⟩ := h1 a _ p e1 np hH
    refine L B ω' H' _ (fun a x r z n e => h1 a x r z (fun ⟨t, ht⟩ => n ⟨[j] ++ t, by rw [← ht]; simp⟩) e) h2 ?_ h4 h5 (fun r q e => ?_) h7
    · refine .lst w1 w2 (by simpa using l) fun i v' o2 z1 z2 => ?_
      by_cases hij : i = j
      · subst hij
        rw [hu] at z1; cases z1
        have hlt : i < os.length := (List.getElem?_eq_some_iff.mp ho).1
        rw [List.getElem?_set_self hlt] at z2; cases z2
        exact h3
      · rw [List.getElem?_set_ne (Ne.symm hij)] at z2
        refine (g i v' o2 z1 z2).tr _ (fun a x r z e => h1 a x _ z (fun ⟨t, ht⟩ => hij ?_) e) h2
        simp only [List.append_assoc, List.append_cancel_left_eq, List.cons_append, List.nil_append, List.cons.injEq] at ht
        exact ht.1.symm
    · obtain ⟨a', z, hz⟩ := hp
      exact h6 r (q ++ [j]) (by rw [e]; rfl)
def gIx : Vl → Vl → Option Vl := fun a b => match a, b with
  | .lf (.list ws), .lf (.int i) => (atI ws i).map .lf
  | .lf (.tuple ws), .lf (.int i) => (atI ws i).map .lf
  | .lf (.str z), .lf (.int i) => if z.length ≤ sizeLine then (atI z.cps.toList i).map fun c => .lf (.str ⟨#[c]⟩) else none
  | .pl (.lst os) up, .lf (.int i) => match ixN os.length i with
    | some j => match os[j]? with
      | some (.lf w) => some (.lf w)
      | some o => some (.pl o fun o' => up (.lst (os.set j o')))
      | none => none
    | none => none
  | _, _ => none
theorem opv_ix : OpV K (rIx K) gIx := by
  intro B ω σ H env x y a b z Q G r1 r2 e q
  unfold gIx at e
  split at e
  · rename_i ws i
    cases h : atI ws i with
    | none => rw [h] at e; cases e
    | some w =>
      rw [h] at e; cases e
      cases (show RW K ω H y (.int i) from r2)
      have r1 : RW K ω H x (.list ws) := r1
      cases r1 with
      | @lst a vs _ f l g =>
        obtain ⟨j, v, h1, h2, h3, h4, _⟩ := atI_map l h
        exact .inl ⟨a, vs, i, v, rfl, rfl, f.sq, h3, q ω H v (.refl _ _) G (g j v w h2 h4)⟩
  · rename_i ws i
    cases h : atI ws i with
    | none => rw [h] at e; cases e
    | some w =>
      rw [h] at e; cases e
      cases (show RW K ω H y (.int i) from r2)
      have r1 : RW K ω H x (.tuple ws) := r1
      cases r1 with
      | @tup a vs _ f l g =>
        obtain ⟨j, v, h1, h2, h3, h4, _⟩ := atI_map l h
        exact .inr (.inl ⟨a, vs, i, v, rfl, rfl, f.sq, h3, q ω H v (.refl _ _) G (g j v w h2 h4)⟩)
  · rename_i z' i
    split at e
    · rename_i hz
      cases h : atI z'.cps.toList i with
      | none => rw [h] at e; cases e
      | some c =>
        rw [h] at e; cases e
        cases (show RW K ω H y (.int i) from r2)
        cases (show RW K ω H x (.str z') from r1)
        exact .inr (.inr ⟨z', i, c, rfl, rfl, hz, h, q ω H _ (.refl _ _) G (.str _)⟩)
    · cases e
  · rename_i os up i
    cases (show RW K ω H y (.int i) from r2)
    obtain ⟨p, ro, L, hp, hup⟩ := r1
    have ro' := ro
    cases ro' with
    | @lst _ a vs _ e1 e2 l g =>
      split at e
      · rename_i j hj
        have key : ∀ o, os[j]? = some o → ∃ v, vs[j]? = some v ∧ atI vs i = some v ∧ RO K ω H (p ++ [j]) v o := fun o ho => by
          have hlt : j < vs.length := by rw [l]; exact (List.getElem?_eq_some_iff.mp ho).1
          refine ⟨vs[j], by simp [hlt], ?_, g j _ o (by simp [hlt]) ho⟩
          rw [getElem_atI (j := j) (by rw [l]; exact hj)]
          simp [hlt]
        split at e
        · rename_i w hw
          cases e
          obtain ⟨v, h1, h2, h3⟩ := key _ hw
          cases h3 with
          | lf r => exact .inl ⟨a, vs, i, v, rfl, rfl, .inl (.inl e2), h2, q ω H v (.refl _ _) G r⟩
        · rename_i o hne hw
          cases e
          obtain ⟨v, h1, h2, h3⟩ := key _ hw
          refine .inl ⟨a, vs, i, v, rfl, rfl, .inl (.inl e2), h2, q ω H v (.refl _ _) G ⟨p ++ [j], h3, lens_lst L ro hp hw vs a rfl e2 h1, ?_, fun o' => hup _⟩⟩
          obtain ⟨r, z, hz⟩ := hp
          exact ⟨r, z ++ [j], by rw [hz]; rfl⟩
        · cases e
      · cases e
  · cases e
theorem ve_ix (ha : VE X W q1 a fa) (hb : VE X W q2 b fb) (hs : PlainIx b := by intro _ _; rfl) : VE X W (q1 && q2) (.Subscript a b pos) (fBinV q2 gIx fa fb) := by
  obtain ⟨ta, pa, sa⟩ := ha.ex
  obtain ⟨tb, pb, sb⟩ := hb.ex
  exact ⟨_, pe_ix ix_seq pa pb hs, se_binV opv_ix sa sb⟩

/-! ### slices -/
structure SO (K : PySem.W.Frag) (mg : Str → Option Value) (W : WX) (q : Bool) (to : TO) (f : En → Rs (Option Int)) : Prop where
  st : q = true → ∀ env x e, f env = .ok x e → e = env
  run : ∀ B ω σ H env Q, Good K B ω σ H env → EPost K mg W q B ω σ H (fun o _ _ H' => Q o H') (f env) → to σ H Q
structure VO_ (X : Cx) (W : WX) (q : Bool) (e : Option Expr) (f : En → Rs (Option Int)) : Prop where
  ex : ∃ t, PO X e t ∧ SO X.K X.mg W q t f
def fNoPart : En → Rs (Option Int) := fun env => .ok none env
def fPart (f : En → Rs Vl) : En → Rs (Option Int) := fun env => (f env).bind fun x e => match x with
  | .lf (.int i) => .ok (some i) e
  | _ => .bad
theorem vo_none : VO_ X W true none fNoPart := ⟨_, po_none, ⟨fun _ env x e h => by cases h; rfl, fun B ω σ H env Q G h => EPost.ok_here G h⟩⟩
theorem vo_some (h : VE X W q e f) : VO_ X W q (some e) (fPart f) := by
  obtain ⟨t, p, s⟩ := h.ex
  refine ⟨_, po_some p, ⟨fun hq env x e z => ?_, fun B ω σ H env Q G z => ?_⟩⟩
  · obtain ⟨a, e1, z1, z2⟩ := Rs.bind_st (env := env) z
    split at z2 <;> cases z2
    exact s.st hq _ _ _ z1
  · refine s.run B ω σ H env _ G ((EPost.bind (q1 := q) (q2 := true) (by rw [Bool.and_true]; exact z)).imp fun x e ω1 H1 _ ev1 qu1 G1 h1 => fun v rv => ?_)
    split at h1
    · rename_i i hfe
      cases (show RW X.K ω1 H1 v (.int i) from rv)
      exact ⟨i, rfl, EPost.ok_here G1 h1⟩
    · exact h1.elim
/-- the cut of a list -/
def cut {α : Type} (xs : List α) (lo hi : Option Int) : List α := (xs.drop (HT.sIx xs.length 0 lo)).take (HT.sIx xs.length xs.length hi - HT.sIx xs.length 0 lo)
def gSl (x : Vl) (lo hi : Option Int) : Option PyData := match x.items with
  | some ws => some (.list (cut ws lo hi))
  | none => match x with
    | .lf (.str z) => if z.length ≤ sizeLine then some (.str (cutS z lo hi)) else none
    | .lf (.tuple ws) => if HT.sIx ws.length 0 lo = 0 ∧ HT.sIx ws.length ws.length hi = ws.length then none else some (.tuple (cut ws lo hi))
    | _ => none
def rSlA (K : PySem.W.Frag) : V → Option Int → Option Int → Hp → VK → Prop := fun x lo hi H Q => rSlL K x lo hi H Q ∨ rSlS x lo hi H Q ∨ rSlT K x lo hi H Q
theorem sl_any : SlR X (rSlA X.K) := SlR.or sl_list (SlR.or sl_str sl_tup)
theorem cut_rws {ω : Om} {H : Hp} {vs : List V} {ws : List PyData} (h : RWs K ω H vs ws) (lo hi : Option Int) : RWs K ω H (cutV vs lo hi) (cut ws lo hi) := by
  unfold cutV cut
  rw [h.1]
  exact (h.drop _).take _
theorem sl_run {B : Nat} {ω : Om} {σ : L2.St} {H : Hp} {env : En} {v : V} {x : Vl} {lo hi : Option Int} {z : PyData} {Q : VK} (G : Good K B ω σ H env) (r : RV K ω σ H v x) (e : gSl x lo hi = some z)
    (hQ : ∀ ω' H' v, Quiet ω H ω' H' → Good K B ω' σ H' env → RW K ω' H' v z → Q v H') : rSlA K v lo hi H Q := by
  unfold gSl at e
  split at e
  · rename_i ws hw
    cases e
    obtain ⟨a, vs, rfl, s, rr⟩ := r.items hw
    exact .inl ⟨a, vs, rfl, s, fun p hp => hQ ω _ _ (.alloc hp) (G.alloc hp) (RW.newL G hp (cut_rws rr lo hi))⟩
  · split at e
    · rename_i zz hno
      split at e
      · rename_i hz
        cases e
        cases (show RW K ω H v (.str zz) from r)
        exact .inr (.inl ⟨zz, rfl, hz, hQ ω H _ (.refl _ _) G (.str _)⟩)
      · cases e
    · rename_i ws hno
      split at e
      · cases e
      · rename_i hn
        cases e
        obtain ⟨a, vs, rfl, s, rr⟩ := r.titems rfl
        refine .inr (.inr ⟨a, vs, rfl, s, ?_, fun p hp => hQ ω _ _ (.alloc hp) (G.alloc hp) (RW.newT G hp (cut_rws rr lo hi))⟩)
        rw [rr.1]
        exact hn
    · cases e
def fSl (q2 q3 : Bool) (f : En → Rs Vl) (fl fh : En → Rs (Option Int)) : En → Rs Vl := fun env => (f env).bind fun x e => if (q2 && q3) || x.isLf then (fl e).bind fun lo e1 => (fh e1).bind fun hi e2 => (match gSl x lo hi with
  | some z => .ok (.lf z) e2
  | none => .bad) else .bad
theorem ve_sl {lo hi : Option Expr} {p2 : Pos} {fl fh : En → Rs (Option Int)} (h : VE X W q1 e f) (hl : VO_ X W q2 lo fl) (hh : VO_ X W q3 hi fh) : VE X W (q1 && (q2 && q3)) (.Subscript e (.Slice lo hi none p2) pos) (fSl q2 q3 f fl fh) := by
  obtain ⟨t, p, s⟩ := h.ex
  obtain ⟨tl, pl, sl⟩ := hl.ex
  obtain ⟨th, ph, sh⟩ := hh.ex
  refine ⟨_, pe_slice sl_any p pl ph, ⟨fun hq env x e z => ?_, fun B ω σ H env Q G z => ?_⟩⟩
  · obtain ⟨h1, h23⟩ := Bool.and_eq_true_iff.mp hq
    obtain ⟨h2, h3⟩ := Bool.and_eq_true_iff.mp h23
    obtain ⟨a, e1, z1, z2⟩ := Rs.bind_st (env := env) z
    split at z2
    · obtain ⟨b, e2, z3, z4⟩ := Rs.bind_st (env := env) z2
      obtain ⟨c, e3, z5, z6⟩ := Rs.bind_st (env := env) z4
      have r1 := s.st h1 _ _ _ z1
      have r2 := sl.st h2 _ _ _ z3
      have r3 := sh.st h3 _ _ _ z5
      split at z6 <;> cases z6
      rw [r3, r2, r1]
    · cases z2
  · refine s.run B ω σ H env _ G ((EPost.bind z).imp fun x e ω1 H1 _ ev1 qu1 G1 h1 => fun v rv => ?_)
    split at h1
    · rename_i hq
      refine sl.run B ω1 σ H1 e _ G1 ((EPost.bind (q1 := q2) (q2 := q3) h1).imp fun y e' ω2 H2 _ ev2 qu2 G2 h2 => ?_)
      refine sh.run B ω2 σ H2 e' _ G2 ((EPost.bind (q1 := q3) (q2 := true) (by rw [Bool.and_true]; exact h2)).imp fun y3 e3 ω3 H3 _ ev3 qu3 G3 h3 => ?_)
      split at h3
      · rename_i z hz
        have rv' : RV X.K ω3 σ H3 v x := (rv.keep (q := q2 && q3) hq ev2 fun t => qu2 (Bool.and_eq_true_iff.mp t).1).keep hq ev3 fun t => qu3 (Bool.and_eq_true_iff.mp t).2
        exact sl_run G3 rv' hz fun ω' H' v qu G' r => h3 ω' H' qu.evo (fun _ => qu) G' v r
      · exact h3.elim
    · exact h1.elim

/-! ### displays, arguments -/
def fNil : En → Rs (List Vl) := fun env => .ok [] env
def fCons (q2 : Bool) (f : En → Rs Vl) (fr : En → Rs (List Vl)) : En → Rs (List Vl) := fun env => (f env).bind fun x e => if q2 || x.isLf then (fr e).bind fun xs e' => .ok (x :: xs) e' else .bad
theorem va_nil : VA X W true [] fNil := ⟨_, pa_nil, ⟨fun _ env x e h => by cases h; rfl, fun B ω σ H env Q G h => EPost.ok_here G h _ RVs.nil⟩⟩
theorem va_cons {fr : En → Rs (List Vl)} (h : VE X W q1 e f) (hr : VA X W q2 es fr) (hs : starEach (e :: es) X.env = (false, eval e X.env) :: starEach es X.env := by rfl) : VA X W (q1 && q2) (e :: es) (fCons q2 f fr) := by
  obtain ⟨t, p, s⟩ := h.ex
  obtain ⟨t', p', s'⟩ := hr.ex
  refine ⟨_, pa_cons p p' hs, ⟨fun hq env x e z => ?_, fun B ω σ H env Q G z => ?_⟩⟩
  · obtain ⟨h1, h2⟩ := Bool.and_eq_true_iff.mp hq
    obtain ⟨a, e1, z1, z2⟩ := Rs.bind_st (env := env) z
    split at z2
    · obtain ⟨b, e2, z3, z4⟩ := Rs.bind_st (env := env) z2
      cases z4
      rw [s'.st h2 _ _ _ z3, s.st h1 _ _ _ z1]
    · cases z2
  · refine s.run B ω σ H env _ G ((EPost.bind z).imp fun x e ω1 H1 _ ev1 qu1 G1 h1 => fun v rv => ?_)
    split at h1
    · rename_i hq
      refine s'.run B ω1 σ H1 e _ G1 ((EPost.bind (q1 := q2) (q2 := true) (by rw [Bool.and_true]; exact h1)).imp fun xs e' ω2 H2 _ ev2 qu2 G2 h2 => fun vs rvs => ?_)
      exact EPost.ok_here G2 h2 _ (RVs.cons (rv.keep hq ev2 qu2) rvs)
    · exact h1.elim
/-- all of them frozen -/
def vlfs : List Vl → Option (List PyData)
  | [] => some []
  | .lf w :: xs => (vlfs xs).map (w :: ·)
  | .pl _ _ :: _ => none
theorem vlfs_rws {ω : Om} {σ : L2.St} {H : Hp} : ∀ {xs : List Vl} {ws : List PyData} {vs : List V}, vlfs xs = some ws → RVs K ω σ H vs xs → RWs K ω H vs ws
  | [], ws, vs, h, r => by cases h; rw [r.nil_inv]; exact RWs.nil
  | .lf w :: xs, ws, vs, h, r => by
    rw [vlfs] at h
    cases e : vlfs xs with
    | none => rw [e] at h; cases h
    | some ws' =>
      rw [e] at h; cases h
      obtain ⟨v, us, rfl, r1, r2⟩ := r.cons_inv
      exact RWs.cons r1 (vlfs_rws e r2)
  | .pl _ _ :: _, ws, vs, h, r => by cases h
def fMk (mk : List PyData → PyData) (fa : En → Rs (List Vl)) : En → Rs Vl := fun env => (fa env).bind fun xs e => match vlfs xs with
  | some ws => if ws.length ≤ sizeLine then .ok (.lf (mk ws)) e else .bad
  | none => .bad
theorem ve_tup {k} {fs : En → Rs (List Vl)} (h : VA X W q es fs) : VE X W q (.Tuple es k pos) (fMk .tuple fs) := by
  obtain ⟨t, p, s⟩ := h.ex
  refine ⟨_, pe_tup p, ⟨fun hq env x e z => ?_, fun B ω σ H env Q G z => ?_⟩⟩
  · obtain ⟨a, e1, z1, z2⟩ := Rs.bind_st (env := env) z
    split at z2
    · split at z2 <;> cases z2
      exact s.st hq _ _ _ z1
    · cases z2
  · refine s.run B ω σ H env _ G ((EPost.bind (q1 := q) (q2 := true) (by rw [Bool.and_true]; exact z)).imp fun xs e ω1 H1 _ ev1 qu1 G1 h1 => fun vs rv => ?_)
    split at h1
    · rename_i ws hw
      split at h1
      · rename_i hl
        have rr := vlfs_rws hw rv
        refine ⟨by rw [rr.1]; exact hl, fun a ha => ?_⟩
        exact h1 ω1 _ (Quiet.alloc ha).evo (fun _ => .alloc ha) (G1.alloc ha) _ (RW.newT G1 ha rr)
      · exact h1.elim
    · exact h1.elim
theorem ve_lst {fs : En → Rs (List Vl)} (h : VA X W q es fs) : VE X W q (.List es pos) (fMk .list fs) := by
  obtain ⟨t, p, s⟩ := h.ex
  refine ⟨_, pe_lst p, ⟨fun hq env x e z => ?_, fun B ω σ H env Q G z => ?_⟩⟩
  · obtain ⟨a, e1, z1, z2⟩ := Rs.bind_st (env := env) z
    split at z2
    · split at z2 <;> cases z2
      exact s.st hq _ _ _ z1
    · cases z2
  · refine s.run B ω σ H env _ G ((EPost.bind (q1 := q) (q2 := true) (by rw [Bool.and_true]; exact z)).imp fun xs e ω1 H1 _ ev1 qu1 G1 h1 => fun vs rv => ?_)
    split at h1
    · rename_i ws hw
      split at h1
      · rename_i hl
        have rr := vlfs_rws hw rv
        refine ⟨by rw [rr.1]; exact hl, fun a ha => ?_⟩
        exact h1 ω1 _ (Quiet.alloc ha).evo (fun _ => .alloc ha) (G1.alloc ha) _ (RW.newL G1 ha rr)
      · exact h1.elim
    · exact h1.elim

/-! ### built-in functions and types, by values -/
def CalS (K : PySem.W.Frag) (r : List V → Hp → VK → Prop) (g : List Vl → Option PyData) : Prop := ∀ B ω σ H env vs xs z Q, Good K B ω σ H env → RVs K ω σ H vs xs → g xs = some z → (∀ ω' H' v, Quiet ω H ω' H' → Good K B ω' σ H' env → RW K ω' H' v z → Q v H') → r vs H Q
theorem CalS.or {r r' : List V → Hp → VK → Prop} {g g' : List Vl → Option PyData} (h : CalS K r g) (h' : CalS K r' g') : CalS K (fun xs H Q => r xs H Q ∨ r' xs H Q) (fun xs => match g xs with | some z => some z | none => g' xs) :=
  fun B ω σ H env vs xs z Q G rv e q => by
    have e : (match g xs with | some z => some z | none => g' xs) = some z := e
    split at e
    · rename_i w hw
      cases e
      exact .inl (h B ω σ H env vs xs _ Q G rv hw q)
    · exact .inr (h' B ω σ H env vs xs z Q G rv e q)
def fCB (g : List Vl → Option PyData) (fs : En → Rs (List Vl)) : En → Rs Vl := fun env => (fs env).bind fun xs e => match g xs with
  | some z => .ok (.lf z) e
  | none => .bad
theorem se_cb {r : List V → Hp → VK → Prop} {g : List Vl → Option PyData} {ta : TA} {fs : En → Rs (List Vl)} (hs : CalS K r g) (s : SA K mg W q ta fs) : SE K mg W q (tCB r ta) (fCB g fs) := by
  refine ⟨fun hq env x e z => ?_, fun B ω σ H env Q G z => ?_⟩
  · obtain ⟨a, e1, z1, z2⟩ := Rs.bind_st (env := env) z
    split at z2 <;> cases z2
    exact s.st hq _ _ _ z1
  · refine s.run B ω σ H env _ G ((EPost.bind (q1 := q) (q2 := true) (by rw [Bool.and_true]; exact z)).imp fun xs e ω1 H1 _ ev1 qu1 G1 h1 => fun vs rv => ?_)
    split at h1
    · rename_i z hz
      exact hs B ω1 σ H1 e vs xs z Q G1 rv hz fun ω' H' v qu G' r => h1 ω' H' qu.evo (fun _ => qu) G' v r
    · exact h1.elim
theorem ve_cb {x : Str} {p : Pos} {id : String} {r : List V → Hp → VK → Prop} {g : List Vl → Option PyData} {fs : En → Rs (List Vl)} (hc : CallR X (.builtin id) r) (hs : CalS X.K r g) (hg : Gl X x) (hm : X.mg x = none) (hv : bootBuiltins x = some (.builtin id)) (ha : VA X W q (e :: es) fs)
    (hn : x ≠ "__name__" := by decide) (hdb : (x == ("__debug__" : Str)) = false := by decide) (he : starEach (e :: es) X.env = (false, eval e X.env) :: starEach es X.env := by rfl)
    (hpl : (backTo pos (starEach es X.env)).any (·.1) = false := by rfl) : VE X W q (.Call (.Name x p) (e :: es) [] pos) (fCB g fs) := by
  obtain ⟨ta, pa, sa⟩ := ha.ex
  exact ⟨_, pe_callB hc hg hm hv pa hn hdb he hpl, se_cb hs sa⟩
theorem ve_ct {x : Str} {p : Pos} {T : String} {r : List V → Hp → VK → Prop} {g : List Vl → Option PyData} {fs : En → Rs (List Vl)} (hc : CallR X (.type T) r) (hs : CalS X.K r g) (hg : Gl X x) (hm : X.mg x = none) (hv : bootBuiltins x = some (.type T)) (ha : VA X W q (e :: es) fs)
    (hn : x ≠ "__name__" := by decide) (hdb : (x == ("__debug__" : Str)) = false := by decide) (he : starEach (e :: es) X.env = (false, eval e X.env) :: starEach es X.env := by rfl)
    (hpl : (backTo pos (starEach es X.env)).any (·.1) = false := by rfl) : VE X W q (.Call (.Name x p) (e :: es) [] pos) (fCB g fs) := by
  obtain ⟨ta, pa, sa⟩ := ha.ex
  exact ⟨_, pe_callTy hc hg hm hv pa hn hdb he hpl, se_cb hs sa⟩
end
end MV
set_option Elab.async false
set_option linter.all false
set_option maxRecDepth 100000
set_option maxHeartbeats 4000000
namespace MV
open PySem PySem.Spec PyProof.Rows L2
section
variable {X : Cx} {W : WX} {q q1 q2 q3 : Bool} {e a b c : Expr} {es rest : List Expr} {pos : Pos} {f fa fb fc : En → Rs Vl} {K : PySem.W.Frag} {mg : Str → Option Value}
/-- the ints of a list of ints -/
def wints : List PyData → Option (List Int)
  | [] => some []
  | .int i :: ws => (wints ws).map (i :: ·)
  | _ :: _ => none
@[simp] theorem wints_map (ns : List Int) : wints (ns.map PyData.int) = some ns := by
  induction ns with
  | nil => rfl
  | cons n ns ih => rw [List.map_cons, wints, ih]; rfl
theorem wints_of {ω : Om} {H : Hp} : ∀ {ws : List PyData} {ns : List Int} {vs : List V}, wints ws = some ns → RWs K ω H vs ws → vs = ns.map V.int
  | [], ns, vs, h, r => by
    cases h
    exact List.length_eq_zero_iff.mp (by simpa using r.1)
  | .int i :: ws, ns, vs, h, r => by
    rw [wints] at h
    cases e : wints ws with
    | none => rw [e] at h; cases h
    | some ns' =>
      rw [e] at h; cases h
      obtain ⟨l, g⟩ := r
      cases vs with
      | nil => simp at l
      | cons v vs =>
        cases g 0 v _ rfl rfl
        have t : RWs K ω H vs ws := ⟨by simpa using l, fun i v' w' e1 e2 => g (i + 1) v' w' (by simpa using e1) (by simpa using e2)⟩
        rw [List.map_cons, wints_of e t]
  | .none :: ws, ns, vs, h, r => by rw [wints] at h <;> first | cases h | (intro _ q; cases q)
  | .bool _ :: ws, ns, vs, h, r => by rw [wints] at h <;> first | cases h | (intro _ q; cases q)
  | .str _ :: ws, ns, vs, h, r => by rw [wints] at h <;> first | cases h | (intro _ q; cases q)
  | .list _ :: ws, ns, vs, h, r => by rw [wints] at h <;> first | cases h | (intro _ q; cases q)
  | .tuple _ :: ws, ns, vs, h, r => by rw [wints] at h <;> first | cases h | (intro _ q; cases q)
  | .dict _ :: ws, ns, vs, h, r => by rw [wints] at h <;> first | cases h | (intro _ q; cases q)
theorem RVs.one {ω : Om} {σ : L2.St} {H : Hp} {vs : List V} {x : Vl} (h : RVs K ω σ H vs [x]) : ∃ v, vs = [v] ∧ RV K ω σ H v x := by
  obtain ⟨v, us, rfl, r, t⟩ := h.cons_inv
  rw [t.nil_inv]
  exact ⟨v, rfl, r⟩
theorem RVs.two {ω : Om} {σ : L2.St} {H : Hp} {vs : List V} {x y : Vl} (h : RVs K ω σ H vs [x, y]) : ∃ v u, vs = [v, u] ∧ RV K ω σ H v x ∧ RV K ω σ H u y := by
  obtain ⟨v, us, rfl, r, t⟩ := h.cons_inv
  obtain ⟨u, rfl, r'⟩ := t.one
  exact ⟨v, u, rfl, r, r'⟩

/-! ### len -/
def Vl.len : Vl → Option Nat
  | .lf (.list ws) => some ws.length
  | .lf (.tuple ws) => some ws.length
  | .lf (.str z) => if z.length ≤ sizeLine then some z.length else none
  | .pl (.lst os) _ => some os.length
  | _ => none
def gLen : List Vl → Option PyData
  | [x] => x.len.map fun n => .int (n : Int)
  | _ => none
theorem cals_len : CalS K (fun xs H Q => ∃ x n, xs = [x] ∧ LenV K x H n ∧ Q (.int n) H) gLen := by
  intro B ω σ H env vs xs z Q G rv e q
  unfold gLen at e
  split at e
  · rename_i x
    obtain ⟨v, rfl, r⟩ := rv.one
    cases hn : x.len with
    | none => rw [hn] at e; cases e
    | some n =>
      rw [hn] at e; cases e
      refine ⟨v, n, rfl, ?_, q ω H _ (.refl _ _) G (.int _)⟩
      unfold Vl.len at hn
      split at hn
      · cases hn
        cases (show RW K ω H v _ from r) with
        | lst f l g => exact .inl ⟨_, f.sq, l.symm⟩
      · cases hn
        cases (show RW K ω H v _ from r) with
        | tup f l g => exact .inr ⟨_, f.sq, l.symm⟩
      · split at hn
        · rename_i hz
          cases hn
          cases (show RW K ω H v _ from r)
          exact ⟨hz, rfl⟩
        · cases hn
      · cases hn
        obtain ⟨p, ro, _⟩ := r
        cases ro with
        | lst e1 e2 l g => exact .inl ⟨_, .inl (.inl e2), l.symm⟩
      · cases hn
  · cases e

/-! ### list(x), sum, max, min -/
def gListOf : List Vl → Option PyData
  | [x] => match x.items with
    | some ws => some (.list ws)
    | none => x.titems.map .list
  | _ => none
theorem cals_list : CalS K (fun xs H Q => ∃ p ys, xs = [.ref p] ∧ (SqL K H p ys ∨ SqT K H p ys) ∧ ∀ l, H l = none → Q (.ref l) (upd H l (.lst ys))) gListOf := by
  intro B ω σ H env vs xs z Q G rv e q
  unfold gListOf at e
  split at e
  · rename_i x
    obtain ⟨v, rfl, r⟩ := rv.one
    split at e
    · rename_i ws hw
      cases e
      obtain ⟨a, us, rfl, s, rr⟩ := r.items hw
      exact ⟨a, us, rfl, .inl s, fun l hl => q ω _ _ (.alloc hl) (G.alloc hl) (RW.newL G hl rr)⟩
    · cases hw : x.titems with
      | none => rw [hw] at e; cases e
      | some ws =>
        rw [hw] at e; cases e
        obtain ⟨a, us, rfl, s, rr⟩ := r.titems hw
        exact ⟨a, us, rfl, .inr s, fun l hl => q ω _ _ (.alloc hl) (G.alloc hl) (RW.newL G hl rr)⟩
  · cases e
def gSum : List Vl → Option PyData
  | [x] => match x.items with
    | some ws => (wints ws).map fun ns => .int ns.sum
    | none => none
  | _ => none
theorem cals_sum : CalS K (rSum K) gSum := by
  intro B ω σ H env vs xs z Q G rv e q
  unfold gSum at e
  split at e
  · rename_i x
    obtain ⟨v, rfl, r⟩ := rv.one
    split at e
    · rename_i ws hw
      cases hn : wints ws with
      | none => rw [hn] at e; cases e
      | some ns =>
        rw [hn] at e; cases e
        obtain ⟨a, us, rfl, s, rr⟩ := r.items hw
        have := wints_of hn rr
        subst this
        exact ⟨a, ns, rfl, s, q ω H _ (.refl _ _) G (.int _)⟩
    · cases e
  · cases e
/-- the greatest, the least of a list that isn't empty -/
def maxL : List Int → Int
  | [] => 0
  | [x] => x
  | x :: xs => max x (maxL xs)
def minL : List Int → Int
  | [] => 0
  | [x] => x
  | x :: xs => min x (minL xs)
theorem maxL_spec : ∀ {l : List Int}, l ≠ [] → maxL l ∈ l ∧ ∀ y ∈ l, y ≤ maxL l
  | [], h => absurd rfl h
  | [x], _ => ⟨by simp [maxL], fun y hy => by simp at hy; simp [maxL, hy]⟩
  | x :: y :: l, _ => by
    obtain ⟨h1, h2⟩ := maxL_spec (l := y :: l) (by simp)
    refine ⟨?_, fun z hz => ?_⟩
    · show max x (maxL (y :: l)) ∈ _
      rcases Int.le_total x (maxL (y :: l)) with h | h
      · rw [Int.max_eq_right h]; exact List.mem_cons_of_mem _ h1
      · rw [Int.max_eq_left h]; exact List.mem_cons_self
    · show z ≤ max x (maxL (y :: l))
      rcases List.mem_cons.mp hz with rfl | hz
      · exact Int.le_max_left _ _
      · exact Int.le_trans (h2 z hz) (Int.le_max_right _ _)
theorem minL_spec : ∀ {l : List Int}, l ≠ [] → minL l ∈ l ∧ ∀ y ∈ l, minL l ≤ y
  | [], h => absurd rfl h
  | [x], _ => ⟨by simp [minL], fun y hy => by simp at hy; simp [minL, hy]⟩
  | x :: y :: l, _ => by
    obtain ⟨h1, h2⟩ := minL_spec (l := y :: l) (by simp)
    refine ⟨?_, fun z hz => ?_⟩
    · show min x (minL (y :: l)) ∈ _
      rcases Int.le_total x (minL (y :: l)) with h | h
      · rw [Int.min_eq_left h]; exact List.mem_cons_self
      · rw [Int.min_eq_right h]; exact List.mem_cons_of_mem _ h1
    · show min x (minL (y :: l)) ≤ z
      rcases List.mem_cons.mp hz with rfl | hz
      · exact Int.min_le_left _ _
      · exact Int.le_trans (Int.min_le_right _ _) (h2 z hz)
theorem maxL_eq {l : List Int} {m : Int} (h1 : m ∈ l) (h2 : ∀ y ∈ l, y ≤ m) : maxL l = m := by
  have hne : l ≠ [] := by intro h; subst h; cases h1
  obtain ⟨a, b⟩ := maxL_spec hne
  exact Int.le_antisymm (h2 _ a) (b _ h1)
theorem minL_eq {l : List Int} {m : Int} (h1 : m ∈ l) (h2 : ∀ y ∈ l, m ≤ y) : minL l = m := by
  have hne : l ≠ [] := by intro h; subst h; cases h1
  obtain ⟨a, b⟩ := minL_spec hne
  exact Int.le_antisymm (b _ h1) (h2 _ a)
def gMax : List Vl → Option PyData
  | [x] => match x.items with
    | some ws => match wints ws with
      | some (n :: ns) => some (.int (maxL (n :: ns)))
      | _ => none
    | none => none
  | [.lf (.int i), .lf (.int j)] => some (.int (max i j))
  | _ => none
def gMin : List Vl → Option PyData
  | [x] => match x.items with
    | some ws => match wints ws with
      | some (n :: ns) => some (.int (minL (n :: ns)))
      | _ => none
    | none => none
  | [.lf (.int i), .lf (.int j)] => some (.int (min i j))
  | _ => none
theorem call_maxA (hc : X.calm = true) : CallR X (.builtin "max") (fun xs H Q => rMax X.K xs H Q ∨ ∃ i j, xs = [.int i, .int j] ∧ Q (.int (if j > i then j else i)) H) := CallR.or (cr_max hc) (call_max2 hc)
theorem call_minA (hc : X.calm = true) : CallR X (.builtin "min") (fun xs H Q => rMin X.K xs H Q ∨ ∃ i j, xs = [.int i, .int j] ∧ Q (.int (if j < i then j else i)) H) := CallR.or (cr_min hc) (call_min2 hc)
theorem cals_max : CalS K (fun xs H Q => rMax K xs H Q ∨ ∃ i j, xs = [.int i, .int j] ∧ Q (.int (if j > i then j else i)) H) gMax := by
  intro B ω σ H env vs xs z Q G rv e q
  unfold gMax at e
  split at e
  · rename_i x
    obtain ⟨v, rfl, r⟩ := rv.one
    split at e
    · rename_i ws hw
      split at e
      · rename_i n ns hn
        cases e
        obtain ⟨a, us, rfl, s, rr⟩ := r.items hw
        have := wints_of hn rr
        subst this
        exact .inl ⟨a, _, rfl, s, by simp, fun m h1 h2 => by rw [maxL_eq h1 h2] at q; exact q ω H _ (.refl _ _) G (.int _)⟩
      · cases e
    · cases e
  · rename_i i j
    cases e
    obtain ⟨v, u, rfl, r, r'⟩ := rv.two
    cases (show RW K ω H v (.int i) from r)
    cases (show RW K ω H u (.int j) from r')
    refine .inr ⟨i, j, rfl, ?_⟩
    have : (if j > i then j else i) = max i j := by split <;> omega
    rw [this]
    exact q ω H _ (.refl _ _) G (.int _)
  · cases e
theorem cals_min : CalS K (fun xs H Q => rMin K xs H Q ∨ ∃ i j, xs = [.int i, .int j] ∧ Q (.int (if j < i then j else i)) H) gMin := by
  intro B ω σ H env vs xs z Q G rv e q
  unfold gMin at e
  split at e
  · rename_i x
    obtain ⟨v, rfl, r⟩ := rv.one
    split at e
    · rename_i ws hw
      split at e
      · rename_i n ns hn
        cases e
        obtain ⟨a, us, rfl, s, rr⟩ := r.items hw
        have := wints_of hn rr
        subst this
        exact .inl ⟨a, _, rfl, s, by simp, fun m h1 h2 => by rw [minL_eq h1 h2] at q; exact q ω H _ (.refl _ _) G (.int _)⟩
      · cases e
    · cases e
  · rename_i i j
    cases e
    obtain ⟨v, u, rfl, r, r'⟩ := rv.two
    cases (show RW K ω H v (.int i) from r)
    cases (show RW K ω H u (.int j) from r')
    refine .inr ⟨i, j, rfl, ?_⟩
    have : (if j < i then j else i) = min i j := by split <;> omega
    rw [this]
    exact q ω H _ (.refl _ _) G (.int _)
  · cases e
def gAbs : List Vl → Option PyData
  | [.lf (.int i)] => some (.int (if i < 0 then -i else i))
  | _ => none
theorem cals_abs : CalS K (fun xs H Q => ∃ i, xs = [.int i] ∧ Q (.int (if i < 0 then -i else i)) H) gAbs := by
  intro B ω σ H env vs xs z Q G rv e q
  unfold gAbs at e
  split at e
  · rename_i i
    cases e
    obtain ⟨v, rfl, r⟩ := rv.one
    cases (show RW K ω H v (.int i) from r)
    exact ⟨i, rfl, q ω H _ (.refl _ _) G (.int _)⟩
  · cases e
def gInt : List Vl → Option PyData
  | [.lf (.int i)] => some (.int i)
  | [.lf (.bool b)] => some (.int (if b then 1 else 0))
  | [.lf (.str x)] => match PySem.intText? x with
    | some n => if x.length ≤ 640 then some (.int n) else none
    | none => none
  | _ => none
theorem call_intA : CallR X (.type "int") (fun xs H Q => ((∃ i, xs = [.int i] ∧ Q (.int i) H) ∨ ∃ k, xs = [.bl k] ∧ Q (.int (if k then 1 else 0)) H) ∨ (∃ a n, xs = [.str a] ∧ PySem.intText? a = some n ∧ a.length ≤ 640 ∧ Q (.int n) H)) := CallR.or call_int1 call_int_str
theorem cals_int : CalS K (fun xs H Q => ((∃ i, xs = [.int i] ∧ Q (.int i) H) ∨ ∃ k, xs = [.bl k] ∧ Q (.int (if k then 1 else 0)) H) ∨ (∃ a n, xs = [.str a] ∧ PySem.intText? a = some n ∧ a.length ≤ 640 ∧ Q (.int n) H)) gInt := by
  intro B ω σ H env vs xs z Q G rv e q
  unfold gInt at e
  split at e
  · rename_i i
    cases e
    obtain ⟨v, rfl, r⟩ := rv.one
    cases (show RW K ω H v (.int i) from r)
    exact .inl (.inl ⟨i, rfl, q ω H _ (.refl _ _) G (.int _)⟩)
  · rename_i b
    cases e
    obtain ⟨v, rfl, r⟩ := rv.one
    cases (show RW K ω H v (.bool b) from r)
    exact .inl (.inr ⟨b, rfl, q ω H _ (.refl _ _) G (.int _)⟩)
  · rename_i x
    split at e
    · rename_i n hn
      split at e
      · rename_i hl
        cases e
        obtain ⟨v, rfl, r⟩ := rv.one
        cases (show RW K ω H v (.str x) from r)
        exact .inr ⟨x, n, rfl, hn, hl, q ω H _ (.refl _ _) G (.int _)⟩
      · cases e
    · cases e
  · cases e
def gStr : List Vl → Option PyData
  | [.lf (.int i)] => if i.natAbs.log2 < 1920 then some (.str (toString i)) else none
  | _ => none
theorem cals_str : CalS K (fun xs H Q => ∃ i, xs = [.int i] ∧ i.natAbs.log2 < 1920 ∧ Q (.str (toString i)) H) gStr := by
  intro B ω σ H env vs xs z Q G rv e q
  unfold gStr at e
  split at e
  · rename_i i
    split at e
    · rename_i hl
      cases e
      obtain ⟨v, rfl, r⟩ := rv.one
      cases (show RW K ω H v (.int i) from r)
      exact ⟨i, rfl, hl, q ω H _ (.refl _ _) G (.str _)⟩
    · cases e
  · cases e
end
end MV
set_option Elab.async false
set_option linter.all false
set_option maxRecDepth 100000
set_option maxHeartbeats 4000000
namespace MV
open PySem PySem.Spec PyProof.Rows L2

/-! ### statements -/
inductive Fl where
  | nx | bk | ct
  | ret (o : O)
def Keep (kp : Nat → Bool) (σ σ' : L2.St) : Prop := ∀ (j : Nat), kp j = true → σ'[j]? = σ[j]?
theorem Keep.refl (kp : Nat → Bool) (σ : L2.St) : Keep kp σ σ := fun _ _ => rfl
theorem Keep.trans {kp : Nat → Bool} {σ σ1 σ2 : L2.St} (a : Keep kp σ σ1) (b : Keep kp σ1 σ2) : Keep kp σ σ2 := fun j h => (b j h).trans (a j h)
theorem Keep.set {kp : Nat → Bool} {σ : L2.St} {i : Nat} {v : Option V} (h : kp i = false) : Keep kp σ (σ.set i v) := fun j hj => by
  have : j ≠ i := fun e => by rw [e, h] at hj; cases hj
  rw [List.getElem?_set_ne (Ne.symm this)]
section
variable (K : PySem.W.Frag) (mg : Str → Option Value) (W : WX)
def SPost (kp : Nat → Bool) (B : Nat) (ω : Om) (σ : L2.St) (H : Hp) (D : Ends) : Rs Fl → Prop
  | .bad => False
  | .ok .nx e => ∀ ω' σ' H', Evo ω H ω' H' → Keep kp σ σ' → Good K B ω' σ' H' e → D.nx σ' H'
  | .ok .bk e => ∀ ω' σ' H', Evo ω H ω' H' → Keep kp σ σ' → Good K B ω' σ' H' e → D.bk σ' H'
  | .ok .ct e => ∀ ω' σ' H', Evo ω H ω' H' → Keep kp σ σ' → Good K B ω' σ' H' e → D.ct σ' H'
  | .ok (.ret o) e => ∀ ω' σ' H' v, Evo ω H ω' H' → Keep kp σ σ' → Good K (B + 1) ω' σ' H' e → RO K ω' H' [B] v o → D.rt v H'
  | .ex c e => ∀ ω' σ' H' C, mg c = some (.ref C) → Evo ω H ω' H' → Keep kp σ σ' → Good K B ω' σ' H' e → W (.ref C) none σ' H'
def SS (kp : Nat → Bool) (ts : TS) (f : En → Rs Fl) : Prop := ∀ B ω σ H env D, Good K B ω σ H env → SPost K mg W kp B ω σ H D (f env) → ts D σ H
end
section
variable {K : PySem.W.Frag} {mg : Str → Option Value} {W : WX} {kp : Nat → Bool} {α : Type} {q q1 q2 : Bool} {B : Nat} {ω ω' ω1 : Om} {σ σ1 : L2.St} {H H' H1 : Hp} {D D' : Ends} {env : En}
theorem SPost.evo {r : Rs Fl} (ev : Evo ω H ω1 H1) (ke : Keep kp σ σ1) (h : SPost K mg W kp B ω σ H D r) : SPost K mg W kp B ω1 σ1 H1 D r := by
  cases r with
  | bad => exact h
  | ok fl e =>
    cases fl with
    | nx => exact fun ω' σ' H' ev' ke' G => h ω' σ' H' (ev.trans ev') (ke.trans ke') G
    | bk => exact fun ω' σ' H' ev' ke' G => h ω' σ' H' (ev.trans ev') (ke.trans ke') G
    | ct => exact fun ω' σ' H' ev' ke' G => h ω' σ' H' (ev.trans ev') (ke.trans ke') G
    | ret o => exact fun ω' σ' H' v ev' ke' G r => h ω' σ' H' v (ev.trans ev') (ke.trans ke') G r
  | ex c e => exact fun ω' σ' H' C hC ev' ke' G => h ω' σ' H' C hC (ev.trans ev') (ke.trans ke') G
theorem SPost.bindE {r : Rs α} {k : α → En → Rs Fl} (h : SPost K mg W kp B ω σ H D (r.bind k)) : EPost K mg W q B ω σ H (fun a e ω1 H1 => SPost K mg W kp B ω1 σ H1 D (k a e)) r := by
  cases r with
  | bad => exact h
  | ok a e => exact fun ω1 H1 ev _ G => SPost.evo ev (.refl _ _) h
  | ex c e => exact fun ω1 H1 C hC ev G => h ω1 σ H1 C hC ev (.refl _ _) G
/-- behind a statement: another one -/
def bindF (r : Rs Fl) (k : En → Rs Fl) : Rs Fl := match r with
  | .ok .nx e => k e
  | r => r
@[simp] theorem bindF_nx (e : En) (k : En → Rs Fl) : bindF (.ok .nx e) k = k e := rfl
@[simp] theorem bindF_ret (o : O) (e : En) (k : En → Rs Fl) : bindF (.ok (.ret o) e) k = .ok (.ret o) e := rfl
@[simp] theorem bindF_bk (e : En) (k : En → Rs Fl) : bindF (.ok .bk e) k = .ok .bk e := rfl
@[simp] theorem bindF_ct (e : En) (k : En → Rs Fl) : bindF (.ok .ct e) k = .ok .ct e := rfl
@[simp] theorem bindF_ex (c : Str) (e : En) (k : En → Rs Fl) : bindF (.ex c e) k = .ex c e := rfl
@[simp] theorem bindF_bad (k : En → Rs Fl) : bindF .bad k = .bad := rfl
theorem SPost.seq {r : Rs Fl} {k : En → Rs Fl} {nx : L2.St → Hp → Prop} (h : SPost K mg W kp B ω σ H D (bindF r k)) (hk : ∀ e ω' σ' H', Evo ω H ω' H' → Keep kp σ σ' → Good K B ω' σ' H' e → SPost K mg W kp B ω' σ' H' D (k e) → nx σ' H') :
    SPost K mg W kp B ω σ H { D with nx := nx } r := by
  cases r with
  | bad => exact h
  | ok fl e =>
    cases fl with
    | nx => exact fun ω' σ' H' ev ke G => hk e ω' σ' H' ev ke G (SPost.evo (r := k e) ev ke h)
    | bk => exact h
    | ct => exact h
    | ret o => exact h
  | ex c e => exact h
theorem SPost.here_nx {e : En} (G : Good K B ω σ H e) (h : SPost K mg W kp B ω σ H D (.ok .nx e)) : D.nx σ H := h ω σ H (.refl _ _) (.refl _ _) G
end

structure VS (X : Cx) (W : WX) (kp : Nat → Bool) (st : Stmt) (f : En → Rs Fl) : Prop where
  ex : ∃ ts, PS X st ts ∧ SS X.K X.mg W kp ts f
structure VSs (X : Cx) (W : WX) (kp : Nat → Bool) (st : List Stmt) (f : En → Rs Fl) : Prop where
  ex : ∃ ts, PSs X st ts ∧ SS X.K X.mg W kp ts f
section
variable {X : Cx} {W : WX} {kp : Nat → Bool} {q q1 q2 q3 : Bool} {e a b c : Expr} {es rest : List Expr} {st : Stmt} {sts sts' : List Stmt} {pos : Pos} {f fa fb fc : En → Rs Vl} {g ga gb : En → Rs Fl} {K : PySem.W.Frag} {mg : Str → Option Value}
def fNext : En → Rs Fl := fun env => .ok .nx env
def fSeq (f g : En → Rs Fl) : En → Rs Fl := fun env => bindF (f env) g
theorem vss_nil : VSs X W kp [] fNext := ⟨_, pss_nil, fun B ω σ H env D G h => h.here_nx G⟩
theorem vss_cons (h : VS X W kp st ga) (h' : VSs X W kp sts gb) : VSs X W kp (st :: sts) (fSeq ga gb) := by
  obtain ⟨t, p, s⟩ := h.ex
  obtain ⟨t', p', s'⟩ := h'.ex
  exact ⟨_, pss_cons p p', fun B ω σ H env D G z => s B ω σ H env _ G (SPost.seq z fun e ω' σ' H' ev ke G' z' => s' B ω' σ' H' e D G' z')⟩
theorem vss_one (h : VS X W kp st ga) : VSs X W kp [st] ga := let ⟨_, p, s⟩ := h.ex; ⟨_, pss_one p, s⟩
theorem vs_pass : VS X W kp (.Pass pos) fNext := ⟨_, ps_pass, fun B ω σ H env D G h => h.here_nx G⟩
def fBreak : En → Rs Fl := fun env => .ok .bk env
def fCont : En → Rs Fl := fun env => .ok .ct env
theorem vs_break : VS X W kp (.Break pos) fBreak := ⟨_, ps_break, fun B ω σ H env D G h => h ω σ H (.refl _ _) (.refl _ _) G⟩
theorem vs_cont : VS X W kp (.Continue pos) fCont := ⟨_, ps_continue, fun B ω σ H env D G h => h ω σ H (.refl _ _) (.refl _ _) G⟩
theorem vs_doc {x j pos'} : VS X W kp (.Expr (.Constant (.str x) j pos) pos') fNext := ⟨_, ps_doc, fun B ω σ H env D G h => h.here_nx G⟩
def fDrop (f : En → Rs Vl) : En → Rs Fl := fun env => (f env).bind fun _ e => .ok .nx e
theorem vs_expr (h : VE X W q e f) (hs : swapsWith e none pos.line X.env = pure false := by rfl) : VS X W kp (.Expr e pos) (fDrop f) := by
  obtain ⟨t, p, s⟩ := h.ex
  exact ⟨_, ps_expr p hs, fun B ω σ H env D G z => s.run B ω σ H env _ G ((SPost.bindE z).imp fun x e ω1 H1 _ ev qu G1 h1 => fun v rv => h1.here_nx G1)⟩
theorem Good.up {K : PySem.W.Frag} {B : Nat} {ω : Om} {σ : L2.St} {H : Hp} {env : En} (G : Good K B ω σ H env) : Good K (B + 1) ω σ H env := ⟨G.rel, fun a p h => let ⟨r, q, h1, h2⟩ := G.root a p h; ⟨r, q, h1, Nat.lt_succ_of_lt h2⟩, G.wf, Nat.le_succ_of_le G.nB, G.len⟩
/-- return of a frozen thing -/
def fRet (f : En → Rs Vl) : En → Rs Fl := fun env => (f env).bind fun x e => match x with
  | .lf w => .ok (.ret (.lf w)) e
  | .pl _ _ => .bad
theorem vs_ret (h : VE X W q e f) : VS X W kp (.Return (some e) pos) (fRet f) := by
  obtain ⟨t, p, s⟩ := h.ex
  refine ⟨_, ps_ret p, fun B ω σ H env D G z => s.run B ω σ H env _ G ((SPost.bindE z).imp fun x e ω1 H1 _ ev qu G1 h1 => fun v rv => ?_)⟩
  cases x with
  | lf w => exact h1 ω1 σ H1 v (.refl _ _) (.refl _ _) G1.up (.lf rv)
  | pl o up => exact h1.elim
def fRetN : En → Rs Fl := fun env => .ok (.ret (.lf .none)) env
theorem vs_retN : VS X W kp (.Return none pos) fRetN := ⟨_, ps_retN, fun B ω σ H env D G h => h ω σ H .non (.refl _ _) (.refl _ _) G.up (.lf .non)⟩
def fIf (c : En → Rs Bool) (f g : En → Rs Fl) : En → Rs Fl := fun env => (c env).bind fun b e => if b then f e else g e
theorem vs_if {c : Expr} {fc : En → Rs Bool} (h : VT X W q c fc) (ha : VSs X W kp sts ga) (hb : VSs X W kp sts' gb) : VS X W kp (.If c sts sts' pos) (fIf fc ga gb) := by
  obtain ⟨t, p, s⟩ := h.ex
  obtain ⟨ta, pa, sa⟩ := ha.ex
  obtain ⟨tb, pb, sb⟩ := hb.ex
  refine ⟨_, ps_if p pa pb, fun B ω σ H env D G z => s.run B ω σ H env _ G ((SPost.bindE z).imp fun x e ω1 H1 _ ev qu G1 h1 => ?_)⟩
  cases x with
  | true => exact sa B ω1 σ H1 e D G1 h1
  | false => exact sb B ω1 σ H1 e D G1 h1
theorem Good.setLf {K : PySem.W.Frag} {B : Nat} {ω : Om} {σ : L2.St} {H : Hp} {env : En} {i : Nat} {v : V} {w : PyData} (G : Good K B ω σ H env) (r : RW K ω H v w) : Good K B ω (σ.set i (some v)) H (env.set i (some (.lf w))) := by
  refine ⟨fun j o e => ?_, G.root, G.wf, by rw [List.length_set]; exact G.nB, by rw [List.length_set, List.length_set]; exact G.len⟩
  by_cases hj : j = i
  · subst hj
    have hl : j < env.length := by
      have := (List.getElem?_eq_some_iff.mp e).1
      simpa using this
    rw [List.getElem?_set_self hl] at e
    cases e
    exact ⟨v, List.getElem?_set_self (by rw [G.len]; exact hl), .lf r⟩
  · rw [List.getElem?_set_ne (Ne.symm hj)] at e ⊢
    exact G.rel j o e
def fSet (i : Nat) (f : En → Rs Vl) : En → Rs Fl := fun env => (f env).bind fun x e => match x with
  | .lf w => .ok .nx (e.set i (some (.lf w)))
  | .pl _ _ => .bad
theorem vs_set {i : Nat} {x : Str} {pos' : Pos} (hN : X.N.Nodup) (hi : X.N[i]? = some x) (hx : Loc X.env.scope x) (h : VE X W q e f) (hk : kp i = false := by rfl) (hs : swapsWith e (some (.Name x pos')) pos.line X.env = pure false := by rfl)
    (hf : X.fn x = true ∨ X.env.scope.names.lookup x = some .local := by first | exact .inl rfl | exact .inr rfl | assumption) : VS X W kp (.Assign [.Name x pos'] e pos) (fSet i f) := by
  obtain ⟨t, p, s⟩ := h.ex
  refine ⟨_, ps_set hN hi hx p hs hf, fun B ω σ H env D G z => s.run B ω σ H env _ G ((SPost.bindE z).imp fun x e ω1 H1 _ ev qu G1 h1 => fun v rv => ?_)⟩
  cases x with
  | lf w => exact h1 ω1 _ H1 (.refl _ _) (.set hk) (G1.setLf rv)
  | pl o up => exact h1.elim
end
end MV
set_option Elab.async false
set_option linter.all false
set_option maxRecDepth 100000
set_option maxHeartbeats 4000000
namespace MV
open PySem PySem.Spec PyProof.Rows L2

/-! ### what a loop walks -/
def Items (K : PySem.W.Frag) (ω : Om) (H : Hp) (J : It) (ws : List PyData) : Prop := ∀ (i : Nat) ω1 H1, EvoF ω H ω1 H1 → (∀ a, Nw (H1 a) → ω1 a = .fr) →
  (ws.length ≤ i → J.stop i H1) ∧ ∀ w, ws[i]? = some w → J.go i H1 ∧ ∀ x H2, J.yld i H1 x H2 → (H2 = H1 ∨ ∃ p u, H1 p = none ∧ H2 = upd H1 p u) ∧ RW K ω1 H2 x w
section
variable (K : PySem.W.Frag) (mg : Str → Option Value) (W : WX)
structure SI (q : Bool) (wi : TI) (f : En → Rs (List PyData)) : Prop where
  st : q = true → ∀ env x e, f env = .ok x e → e = env
  run : ∀ B ω σ H env R, Good K B ω σ H env → EPost K mg W q B ω σ H (fun ws _ ω' H' => ∀ J, Items K ω' H' J ws → R J H') (f env) → wi σ H R
/-- a target: names, tuples of names -/
structure SG (kp : Nat → Bool) (g : TG) (f : PyData → En → Option En) : Prop where
  run : ∀ B ω σ H env v w Q, Good K B ω σ H env → RW K ω H v w → (match f w env with
    | some e => ∀ σ', Keep kp σ σ' → σ'.length = σ.length → Good K B ω σ' H e → Q σ' H
    | none => False) → g v σ H Q
  st : ∀ w env e, f w env = some e → e.length = env.length ∧ ∀ (j : Nat), kp j = true → e[j]? = env[j]?
end
structure VI (X : Cx) (W : WX) (q : Bool) (tg iter : Expr) (f : En → Rs (List PyData)) : Prop where
  ex : ∃ wi, PI X tg iter wi ∧ SI X.K X.mg W q wi f
structure VG (X : Cx) (kp : Nat → Bool) (tg : Expr) (f : PyData → En → Option En) : Prop where
  ex : ∃ g, PG X tg g ∧ SG X.K kp g f
section
variable {X : Cx} {W : WX} {kp : Nat → Bool} {q q1 q2 q3 : Bool} {tg e a b c iter : Expr} {es rest : List Expr} {st : Stmt} {sts sts' : List Stmt} {pos : Pos} {f fa fb fc : En → Rs Vl} {g ga gb : En → Rs Fl} {K : PySem.W.Frag} {mg : Str → Option Value}
/-! ### targets -/
def tgName (i : Nat) : PyData → En → Option En := fun w env => if i < env.length then some (env.set i (some (.lf w))) else none
theorem vg_name {i : Nat} {x : Str} (hN : X.N.Nodup) (hi : X.N[i]? = some x) (hx : Loc X.env.scope x) (hk : kp i = false := by rfl) (hf : X.fn x = true ∨ X.env.scope.names.lookup x = some .local := by first | exact .inl rfl | exact .inr rfl | assumption) : VG X kp (.Name x pos) (tgName i) := by
  refine ⟨_, pg_name hN hi hx hf, ⟨fun B ω σ H env v w Q G r h => ?_, fun w env e h => ?_⟩⟩
  · unfold tgName at h
    split at h
    · rename_i heq
      split at heq <;> cases heq
      exact h _ (Keep.set hk) (by simp) (G.setLf r)
    · exact h.elim
  · unfold tgName at h
    split at h <;> cases h
    refine ⟨by simp, fun j hj => ?_⟩
    have : j ≠ i := fun z => by rw [z, hk] at hj; cases hj
    rw [List.getElem?_set_ne (Ne.symm this)]
structure SGs (K : PySem.W.Frag) (kp : Nat → Bool) (g : TGs) (f : List PyData → En → Option En) : Prop where
  run : ∀ B ω σ H env vs ws Q, Good K B ω σ H env → RWs K ω H vs ws → (match f ws env with
    | some e => ∀ σ', Keep kp σ σ' → σ'.length = σ.length → Good K B ω σ' H e → Q σ' H
    | none => False) → g vs σ H Q
  st : ∀ w env e, f w env = some e → e.length = env.length ∧ ∀ (j : Nat), kp j = true → e[j]? = env[j]?
structure VGs (X : Cx) (kp : Nat → Bool) (ts : List Expr) (f : List PyData → En → Option En) : Prop where
  ex : ∃ g, PGs X ts g ∧ SGs X.K kp g f
def tgNil : List PyData → En → Option En := fun ws env => match ws with
  | [] => some env
  | _ => none
def tgCons (g : PyData → En → Option En) (gs : List PyData → En → Option En) : List PyData → En → Option En := fun ws env => match ws with
  | w :: ws => (g w env).bind fun e => gs ws e
  | [] => none
theorem vgs_nil : VGs X kp [] tgNil := by
  refine ⟨_, pgs_nil, ⟨fun B ω σ H env vs ws Q G r h => ?_, fun ws env e h => ?_⟩⟩
  · cases ws with
    | nil => exact ⟨List.length_eq_zero_iff.mp (by simpa using r.1), h σ (.refl _ _) rfl G⟩
    | cons => exact h.elim
  · cases ws with
    | nil => cases h; exact ⟨rfl, fun _ _ => rfl⟩
    | cons => cases h
theorem vgs_cons {gt : PyData → En → Option En} {gs : List PyData → En → Option En} (h1 : VG X kp e gt) (h2 : VGs X kp es gs) (hs : (assignEach (e :: es) X.env).map (·.2) = assign e X.env :: (assignEach es X.env).map (·.2) := by rfl) : VGs X kp (e :: es) (tgCons gt gs) := by
  obtain ⟨t, p, s⟩ := h1.ex
  obtain ⟨t', p', s'⟩ := h2.ex
  refine ⟨_, pgs_cons p p' hs, ⟨fun B ω σ H env vs ws Q G r h => ?_, fun ws env e h => ?_⟩⟩
  · cases ws with
    | nil => exact h.elim
    | cons w ws =>
      cases vs with
      | nil => simp [RWs] at r
      | cons v vs =>
        refine ⟨v, vs, rfl, s.run B ω σ H env v w _ G (r.2 0 v w rfl rfl) ?_⟩
        have h : (match (gt w env).bind fun e => gs ws e with
          | some e => ∀ σ', Keep kp σ σ' → σ'.length = σ.length → Good X.K B ω σ' H e → Q σ' H
          | none => False) := h
        cases z : gt w env with
        | none => rw [z] at h; exact h
        | some e1 =>
          rw [z] at h
          intro σ1 k1 l1 G1
          refine s'.run B ω σ1 H e1 vs ws _ G1 ⟨by simpa using r.1, fun i v' w' e1 e2 => r.2 (i + 1) v' w' (by simpa using e1) (by simpa using e2)⟩ ?_
          have h : (match gs ws e1 with
            | some e => ∀ σ', Keep kp σ σ' → σ'.length = σ.length → Good X.K B ω σ' H e → Q σ' H
            | none => False) := h
          cases z2 : gs ws e1 with
          | none => rw [z2] at h; exact h
          | some e2 => rw [z2] at h; exact fun σ2 k2 l2 G2 => h σ2 (k1.trans k2) (l2.trans l1) G2
  · cases ws with
    | nil => cases h
    | cons w ws =>
      obtain ⟨e1, z1, z2⟩ := Option.bind_eq_some_iff.mp h
      obtain ⟨l1, k1⟩ := s.st _ _ _ z1
      obtain ⟨l2, k2⟩ := s'.st _ _ _ z2
      exact ⟨l2.trans l1, fun j hj => (k2 j hj).trans (k1 j hj)⟩
def tgTup (n : Nat) (gs : List PyData → En → Option En) : PyData → En → Option En := fun w env => match w with
  | .tuple ws => if ws.length = n then gs ws env else none
  | _ => none
theorem vg_tup {k : Nat} {gs : List PyData → En → Option En} {n : Nat} (hc : X.calm = true) (h : VGs X kp es gs) (hn : (assignEach es X.env).length = n := by rfl) (hst : (assignEach es X.env).findIdx? (·.1) = none := by rfl) : VG X kp (.Tuple es k pos) (tgTup n gs) := by
  obtain ⟨t, p, s⟩ := h.ex
  refine ⟨_, pg_tup hc p hn hst, ⟨fun B ω σ H env v w Q G r h => ?_, fun w env e h => ?_⟩⟩
  · cases w with
    | tuple ws =>
      cases r with
      | @tup a vs _ f l g =>
        have h : (match (if ws.length = n then gs ws env else none) with
          | some e => ∀ σ', Keep kp σ σ' → σ'.length = σ.length → Good X.K B ω σ' H e → Q σ' H
          | none => False) := h
        split at h
        · rename_i heq
          split at heq
          · rename_i hl
            refine ⟨a, vs, rfl, f.sq, l.trans hl, s.run B ω σ H env vs ws _ G ⟨l, g⟩ ?_⟩
            rw [heq]; exact h
          · cases heq
        · exact h.elim
    | _ => exact h.elim
  · cases w with
    | tuple ws =>
      have h : (if ws.length = n then gs ws env else none) = some e := h
      split at h
      · exact s.st _ _ _ h
      · cases h
    | _ => cases h
/-- a tuple target, a list handed in -/
def tgLst (n : Nat) (gs : List PyData → En → Option En) : PyData → En → Option En := fun w env => match w with
  | .list ws => if ws.length = n then gs ws env else none
  | _ => none
theorem vg_lst {k : Nat} {gs : List PyData → En → Option En} {n : Nat} (hc : X.calm = true) (h : VGs X kp es gs) (hn : (assignEach es X.env).length = n := by rfl) (hst : (assignEach es X.env).findIdx? (·.1) = none := by rfl) : VG X kp (.Tuple es k pos) (tgLst n gs) := by
  obtain ⟨t, p, s⟩ := h.ex
  refine ⟨_, pg_lst hc p hn hst, ⟨fun B ω σ H env v w Q G r h => ?_, fun w env e h => ?_⟩⟩
  · cases w with
    | list ws =>
      cases r with
      | @lst a vs _ f l g =>
        have h : (match (if ws.length = n then gs ws env else none) with
          | some e => ∀ σ', Keep kp σ σ' → σ'.length = σ.length → Good X.K B ω σ' H e → Q σ' H
          | none => False) := h
        split at h
        · rename_i heq
          split at heq
          · rename_i hl
            refine ⟨a, vs, rfl, f.sq, l.trans hl, s.run B ω σ H env vs ws _ G ⟨l, g⟩ ?_⟩
            rw [heq]; exact h
          · cases heq
        · exact h.elim
    | _ => exact h.elim
  · cases w with
    | list ws =>
      have h : (if ws.length = n then gs ws env else none) = some e := h
      split at h
      · exact s.st _ _ _ h
      · cases h
    | _ => cases h
/-- target = e -/
def fAsg (gt : PyData → En → Option En) (f : En → Rs Vl) : En → Rs Fl := fun env => (f env).bind fun x e => match x with
  | .lf w => match gt w e with
    | some e' => .ok .nx e'
    | none => .bad
  | .pl _ _ => .bad
theorem vs_asg {gt : PyData → En → Option En} (h : VE X W q e f) (hg : VG X kp tg gt) (hs : swapsWithSole [tg] e pos.line X.env = pure false := by rfl) (hw : swappedStores [tg] e X.env = pure none := by rfl)
    (h1 : (assignEach [tg] X.env).map (·.2) = [assign tg X.env] := by rfl) : VS X W kp (.Assign [tg] e pos) (fAsg gt f) := by
  obtain ⟨t, p, s⟩ := h.ex
  obtain ⟨t', p', s'⟩ := hg.ex
  refine ⟨_, ps_asg p p' hs hw h1, fun B ω σ H env D G z => s.run B ω σ H env _ G ((SPost.bindE z).imp fun x e ω1 H1 _ ev qu G1 h1 => fun v rv => ?_)⟩
  cases x with
  | pl o up => exact h1.elim
  | lf w =>
    refine s'.run B ω1 σ H1 e v w _ G1 rv ?_
    have h1 : SPost X.K X.mg W kp B ω1 σ H1 D (match gt w e with
      | some e' => .ok .nx e'
      | none => .bad) := h1
    cases zz : gt w e with
    | none => rw [zz] at h1; exact h1
    | some e' => rw [zz] at h1; exact fun σ' k l G' => h1 ω1 σ' H1 (.refl _ _) k G'

/-! ### for -/
def vFor (g : PyData → En → Option En) (body : En → Rs Fl) : List PyData → En → Rs Fl
  | [], env => .ok .nx env
  | w :: ws, env => match g w env with
    | none => .bad
    | some e => match body e with
      | .ok .nx e' => vFor g body ws e'
      | .ok .ct e' => vFor g body ws e'
      | .ok .bk e' => .ok .nx e'
      | r => r
def fFor (fi : En → Rs (List PyData)) (g : PyData → En → Option En) (body : En → Rs Fl) : En → Rs Fl := fun env => (fi env).bind fun ws e => vFor g body ws e
theorem SPost.turn {B : Nat} {ω : Om} {σ : L2.St} {H : Hp} {D : Ends} {r : Rs Fl} {k : En → Rs Fl} {N : L2.St → Hp → Prop} (h : SPost K mg W kp B ω σ H D (match r with
    | .ok .nx e' => k e'
    | .ok .ct e' => k e'
    | .ok .bk e' => .ok .nx e'
    | r => r)) (hk : ∀ e ω' σ' H', Evo ω H ω' H' → Keep kp σ σ' → Good K B ω' σ' H' e → SPost K mg W kp B ω' σ' H' D (k e) → N σ' H') : SPost K mg W kp B ω σ H { D with nx := N, ct := N, bk := D.nx } r := by
  cases r with
  | bad => exact h
  | ok fl e =>
    cases fl with
    | nx => exact fun ω' σ' H' ev ke G => hk e ω' σ' H' ev ke G (SPost.evo (r := k e) ev ke h)
    | ct => exact fun ω' σ' H' ev ke G => hk e ω' σ' H' ev ke G (SPost.evo (r := k e) ev ke h)
    | bk => exact h
    | ret o => exact h
  | ex c e => exact h
theorem vs_for {fi : En → Rs (List PyData)} {gt : PyData → En → Option En} (hp : PassesOwn (model X.prog X.w) X.A X.env X.xe) (hc : X.calm = true) (hi : VI X W q tg iter fi) (hg : VG X kp tg gt) (hb : VSs X W kp sts ga)
    (hs : ∀ x, foldedSetIterable iter X.env x = pure x := by intro _; rfl) : VS X W kp (.For tg iter sts [] pos) (fFor fi gt ga) := by
  obtain ⟨wi, pi, si⟩ := hi.ex
  obtain ⟨t, pt, st⟩ := hg.ex
  obtain ⟨tb, pb, sb⟩ := hb.ex
  refine ⟨_, ps_for hp hc pi pt pb hs, fun B ω σ H env D G z => si.run B ω σ H env _ G ((SPost.bindE z).imp fun ws e ω1 H1 _ ev qu G1 h1 => fun J hJ => ?_)⟩
  refine ⟨fun i m σ' H' => ∃ ω' env', Evo ω1 H1 ω' H' ∧ Keep kp σ σ' ∧ Good X.K B ω' σ' H' env' ∧ m = ws.length - i ∧ i ≤ ws.length ∧ SPost X.K X.mg W kp B ω' σ' H' D (vFor gt ga (ws.drop i) env'),
    ⟨ws.length, ω1, e, .refl _ _, .refl _ _, G1, by simp, Nat.zero_le _, by simpa using h1⟩, ?_⟩
  rintro i m σ' H' ⟨ω', env', ev', ke', G', rfl, hi, sp⟩
  obtain ⟨j1, j2⟩ := hJ i ω' H' ev'.fr G'.wf
  by_cases hlt : i < ws.length
  · right
    obtain ⟨hgo, hy⟩ := j2 ws[i] (by simp [hlt])
    refine ⟨hgo, fun σ2 H2 => ∃ ω' env', Evo ω1 H1 ω' H2 ∧ Keep kp σ σ2 ∧ Good X.K B ω' σ2 H2 env' ∧ SPost X.K X.mg W kp B ω' σ2 H2 D (vFor gt ga (ws.drop (i + 1)) env'), fun σ2 H2 ⟨ω2, e2, a1, a2, a3, a4⟩ => ⟨ws.length - (i + 1), by omega, ω2, e2, a1, a2, a3, rfl, hlt, a4⟩, fun x H2 hx => ?_⟩
    obtain ⟨hH, rw_⟩ := hy x H2 hx
    have qu2 : Quiet ω' H' ω' H2 := by
      rcases hH with rfl | ⟨p, u, hp, rfl⟩
      · exact .refl _ _
      · exact .alloc hp
    have G2 : Good X.K B ω' σ' H2 env' := by
      rcases hH with rfl | ⟨p, u, hp, rfl⟩
      · exact G'
      · exact G'.alloc hp
    refine st.run B ω' σ' H2 env' x ws[i] _ G2 rw_ ?_
    rw [List.drop_eq_getElem_cons hlt] at sp
    have sp := SPost.evo qu2.evo (.refl _ _) sp
    unfold vFor at sp
    cases zz : gt ws[i] env' with
    | none => rw [zz] at sp; exact sp
    | some e1 =>
      rw [zz] at sp
      intro σ3 k3 l3 G3
      have sp := SPost.evo (.refl _ _) k3 sp
      refine sb B ω' σ3 H2 e1 _ G3 (SPost.turn (k := fun e' => vFor gt ga (ws.drop (i + 1)) e') sp fun e4 ω4 σ4 H4 ev4 k4 G4 sp4 => ?_)
      exact ⟨ω4, e4, (ev'.trans qu2.evo).trans ev4, (ke'.trans k3).trans k4, G4, sp4⟩
  · left
    have : i = ws.length := by omega
    subst this
    refine ⟨j1 (Nat.le_refl _), ?_⟩
    simp only [List.drop_length] at sp
    exact sp.here_nx G'

/-! ### while -/
def vWhile (c : En → Rs Bool) (body : En → Rs Fl) : Nat → En → Rs Fl
  | 0, _ => .bad
  | n + 1, env => (c env).bind fun b e => if b then (match body e with
      | .ok .nx e' => vWhile c body n e'
      | .ok .ct e' => vWhile c body n e'
      | .ok .bk e' => .ok .nx e'
      | r => r) else .ok .nx e
open Classical in
noncomputable def fWhile (c : En → Rs Bool) (body : En → Rs Fl) : En → Rs Fl := fun env => if h : ∃ n, vWhile c body n env ≠ .bad then vWhile c body h.choose env else .bad
theorem vs_while {c : Expr} {fc : En → Rs Bool} (hp : PassesOwn (model X.prog X.w) X.A X.env X.xe) (hc : VT X W q c fc) (hb : VSs X W kp sts ga) : VS X W kp (.While c sts [] pos) (fWhile fc ga) := by
  obtain ⟨t, p, s⟩ := hc.ex
  obtain ⟨tb, pb, sb⟩ := hb.ex
  refine ⟨_, ps_while hp p pb, fun B ω σ H env D G z => ?_⟩
  unfold fWhile at z
  split at z
  · rename_i hn
    generalize hn.choose = n at z
    refine ⟨fun m σ' H' => ∃ ω' env', Good X.K B ω' σ' H' env' ∧ SPost X.K X.mg W kp B ω' σ' H' D (vWhile fc ga m env'), ⟨n, ω, env, G, z⟩, ?_⟩
    rintro m σ' H' ⟨ω', env', G', sp⟩
    cases m with
    | zero => exact sp.elim
    | succ m =>
      unfold vWhile at sp
      refine s.run B ω' σ' H' env' _ G' ((SPost.bindE sp).imp fun b e ω1 H1 _ ev qu G1 h1 => ?_)
      cases b with
      | true =>
        rw [if_pos rfl] at h1 ⊢
        refine ⟨fun σ2 H2 => ∃ ω' env', Good X.K B ω' σ2 H2 env' ∧ SPost X.K X.mg W kp B ω' σ2 H2 D (vWhile fc ga m env'), fun σ2 H2 h => ⟨m, Nat.lt_succ_self _, h⟩, ?_⟩
        exact sb B ω1 σ' H1 e _ G1 (SPost.turn (k := fun e' => vWhile fc ga m e') h1 fun e4 ω4 σ4 H4 ev4 k4 G4 sp4 => ⟨ω4, e4, G4, sp4⟩)
      | false =>
        rw [if_neg Bool.false_ne_true] at h1 ⊢
        exact h1.here_nx G1
  · exact z.elim
/-- more turns change nothing -/
theorem vWhile_more {c : En → Rs Bool} {body : En → Rs Fl} : ∀ {n : Nat} {env : En}, vWhile c body n env ≠ .bad → vWhile c body (n + 1) env = vWhile c body n env
  | 0, env, h => absurd rfl h
  | n + 1, env, h => by
    unfold vWhile at h ⊢
    cases hc : c env with
    | bad => rfl
    | ex cc e => rfl
    | ok b e =>
      rw [hc] at h
      cases b with
      | false => rfl
      | true =>
        simp only [Rs.bind_ok, if_true] at h ⊢
        cases hb : body e with
        | bad => rfl
        | ex cc e => rfl
        | ok fl e' =>
          rw [hb] at h
          cases fl with
          | nx => exact vWhile_more h
          | ct => exact vWhile_more h
          | bk => rfl
          | ret o => rfl
theorem vWhile_le {c : En → Rs Bool} {body : En → Rs Fl} {n : Nat} {env : En} (h : vWhile c body n env ≠ .bad) : ∀ k, vWhile c body (n + k) env = vWhile c body n env
  | 0 => rfl
  | k + 1 => by
    have ih := vWhile_le h k
    rw [← ih]
    exact vWhile_more (show vWhile c body (n + k) env ≠ .bad by rw [ih]; exact h)
theorem fWhile_eq {c : En → Rs Bool} {body : En → Rs Fl} {n : Nat} {env : En} {r : Rs Fl} (h : vWhile c body n env = r) (hr : r ≠ .bad) : fWhile c body env = r := by
  have hn : ∃ n, vWhile c body n env ≠ .bad := ⟨n, by rw [h]; exact hr⟩
  unfold fWhile
  rw [dif_pos hn]
  have hc := hn.choose_spec
  rcases Nat.le_total n hn.choose with hle | hle
  · obtain ⟨k, hk⟩ := Nat.le.dest hle
    rw [← hk, vWhile_le (by rw [h]; exact hr), h]
  · obtain ⟨k, hk⟩ := Nat.le.dest hle
    have := vWhile_le hc k
    rw [hk, h] at this
    exact this.symm
end
end MV
set_option Elab.async false
set_option linter.all false
set_option maxRecDepth 100000
set_option maxHeartbeats 4000000
namespace MV
open PySem PySem.Spec PyProof.Rows L2
section
variable {X : Cx} {W : WX} {kp : Nat → Bool} {q q1 q2 q3 : Bool} {tg e a b c iter elt : Expr} {es rest ifs : List Expr} {pos : Pos} {f fa fb fc fe : En → Rs Vl} {K : PySem.W.Frag} {mg : Str → Option Value}
/-! ### what is walked -/
/-- a list or tuple of frozen things -/
def fItL (f : En → Rs Vl) : En → Rs (List PyData) := fun env => (f env).bind fun x e => match x with
  | .lf (.list ws) => .ok ws e
  | _ => .bad
def fItT (f : En → Rs Vl) : En → Rs (List PyData) := fun env => (f env).bind fun x e => match x with
  | .lf (.tuple ws) => .ok ws e
  | _ => .bad
theorem items_list {ω : Om} {H : Hp} {a : Addr} {vs : List V} {ws : List PyData} (f : FL K ω H a vs) (r : RWs K ω H vs ws) : Items K ω H (Itl K a) ws := fun i ω1 H1 ev wf => by
  have s1 := (f.evoF ev).sq
  refine ⟨fun h => ⟨vs, s1, by rw [r.1]; exact h⟩, fun w hw => ?_⟩
  have hlt : i < vs.length := by rw [r.1]; exact (List.getElem?_eq_some_iff.mp hw).1
  refine ⟨⟨vs, vs[i], s1, by simp [hlt]⟩, fun x H2 hx => ⟨.inl hx.1, ?_⟩⟩
  have := hx.2 vs s1
  rw [hx.1]
  exact (r.2 i x w this hw).evoF ev
theorem items_tup {ω : Om} {H : Hp} {a : Addr} {vs : List V} {ws : List PyData} (f : FT K ω H a vs) (r : RWs K ω H vs ws) : Items K ω H (Itt K a) ws := fun i ω1 H1 ev wf => by
  have s1 := (f.evoF ev).sq
  refine ⟨fun h => ⟨vs, s1, by rw [r.1]; exact h⟩, fun w hw => ?_⟩
  have hlt : i < vs.length := by rw [r.1]; exact (List.getElem?_eq_some_iff.mp hw).1
  refine ⟨⟨vs, vs[i], s1, by simp [hlt]⟩, fun x H2 hx => ⟨.inl hx.1, ?_⟩⟩
  have := hx.2 vs s1
  rw [hx.1]
  exact (r.2 i x w this hw).evoF ev
theorem vi_list (h : VE X W q e f) : VI X W q tg e (fItL f) := by
  obtain ⟨t, p, s⟩ := h.ex
  refine ⟨_, pi_list p, ⟨fun hq env x e z => ?_, fun B ω σ H env R G z => ?_⟩⟩
  · obtain ⟨a, e1, z1, z2⟩ := Rs.bind_st (env := env) z
    split at z2 <;> cases z2
    exact s.st hq _ _ _ z1
  · refine s.run B ω σ H env _ G ((EPost.bind (q1 := q) (q2 := true) (by rw [Bool.and_true]; exact z)).imp fun x e ω1 H1 _ ev1 qu1 G1 h1 => fun v rv => ?_)
    split at h1
    · rename_i ws hfe
      cases (show RW X.K ω1 H1 v (.list ws) from rv) with
      | @lst a vs _ f l g => exact ⟨a, rfl, ⟨vs, f.sq⟩, EPost.ok_here G1 h1 _ (items_list f ⟨l, g⟩)⟩
    · exact h1.elim
theorem vi_tup (h : VE X W q e f) : VI X W q tg e (fItT f) := by
  obtain ⟨t, p, s⟩ := h.ex
  refine ⟨_, pi_tup p, ⟨fun hq env x e z => ?_, fun B ω σ H env R G z => ?_⟩⟩
  · obtain ⟨a, e1, z1, z2⟩ := Rs.bind_st (env := env) z
    split at z2 <;> cases z2
    exact s.st hq _ _ _ z1
  · refine s.run B ω σ H env _ G ((EPost.bind (q1 := q) (q2 := true) (by rw [Bool.and_true]; exact z)).imp fun x e ω1 H1 _ ev1 qu1 G1 h1 => fun v rv => ?_)
    split at h1
    · rename_i ws hfe
      cases (show RW X.K ω1 H1 v (.tuple ws) from rv) with
      | @tup a vs _ f l g => exact ⟨a, rfl, ⟨vs, f.sq⟩, EPost.ok_here G1 h1 _ (items_tup f ⟨l, g⟩)⟩
    · exact h1.elim
/-- the signs of a text -/
def signs (x : Str) : List PyData := x.cps.toList.map fun c => .str ⟨#[c]⟩
def fItS (f : En → Rs Vl) : En → Rs (List PyData) := fun env => (f env).bind fun x e => match x with
  | .lf (.str z) => .ok (signs z) e
  | _ => .bad
theorem items_str {ω : Om} {H : Hp} {x : Str} : Items K ω H (Its x) (signs x) := fun i ω1 H1 ev wf => by
  refine ⟨fun h => (show x.cps.size ≤ i by simpa [signs] using h), fun w hw => ?_⟩
  unfold signs at hw
  rw [List.getElem?_map] at hw
  cases hc : x.cps.toList[i]? with
  | none => rw [hc] at hw; cases hw
  | some c =>
    rw [hc] at hw; cases hw
    have hlt : i < x.cps.size := by
      have := (List.getElem?_eq_some_iff.mp hc).1
      simpa using this
    refine ⟨hlt, fun v H2 hx => ⟨.inl hx.1, ?_⟩⟩
    obtain ⟨_, c', hc', rfl⟩ := hx
    have : x.cps.toList[i]? = some c' := by simpa using hc'
    rw [hc] at this; cases this
    exact .str _
theorem vi_str (h : VE X W q e f) : VI X W q tg e (fItS f) := by
  obtain ⟨t, p, s⟩ := h.ex
  refine ⟨_, pi_str p, ⟨fun hq env x e z => ?_, fun B ω σ H env R G z => ?_⟩⟩
  · obtain ⟨a, e1, z1, z2⟩ := Rs.bind_st (env := env) z
    split at z2 <;> cases z2
    exact s.st hq _ _ _ z1
  · refine s.run B ω σ H env _ G ((EPost.bind (q1 := q) (q2 := true) (by rw [Bool.and_true]; exact z)).imp fun x e ω1 H1 _ ev1 qu1 G1 h1 => fun v rv => ?_)
    split at h1
    · rename_i z hfe
      cases (show RW X.K ω1 H1 v (.str z) from rv)
      exact ⟨z, rfl, EPost.ok_here G1 h1 _ items_str⟩
    · exact h1.elim
/-- lo, lo + 1, .. -/
def rng (lo : Int) (n : Nat) : List PyData := (List.range n).map fun k => .int (lo + (k : Nat))
theorem items_rng {ω : Om} {H : Hp} {lo : Int} {n : Nat} : Items K ω H (Itr lo n) (rng lo n) := fun i ω1 H1 ev wf => by
  refine ⟨fun h => (show n ≤ i by simpa [rng] using h), fun w hw => ?_⟩
  unfold rng at hw
  rw [List.getElem?_map] at hw
  by_cases hi : i < n
  · rw [List.getElem?_range hi] at hw
    cases hw
    exact ⟨hi, fun v H2 hx => ⟨.inl hx.1, by rw [hx.2]; exact .int _⟩⟩
  · rw [List.getElem?_eq_none (by simpa using hi)] at hw
    cases hw
def rOk (i : Int) : Bool := decide (i.natAbs < 2 ^ 62)
theorem rOk_le {i : Int} (h : rOk i = true) : -(2 ^ 62) ≤ i ∧ i < 2 ^ 62 := by
  unfold rOk at h
  have := of_decide_eq_true h
  omega
def fRng1 (fs : En → Rs (List Vl)) : En → Rs (List PyData) := fun env => (fs env).bind fun xs e => match xs with
  | [.lf (.int j)] => if rOk j then .ok (rng 0 j.toNat) e else .bad
  | _ => .bad
def fRng2 (fs : En → Rs (List Vl)) : En → Rs (List PyData) := fun env => (fs env).bind fun xs e => match xs with
  | [.lf (.int i), .lf (.int j)] => if rOk i && rOk j then .ok (rng i (j - i).toNat) e else .bad
  | _ => .bad
theorem vi_rng1 {p : Pos} {fs : En → Rs (List Vl)} (hg : Gl X "range") (hm : X.mg "range" = none) (ha : VA X W q [a] fs) (hs : starEach [a] X.env = [(false, eval a X.env)] := by rfl) : VI X W q tg (.Call (.Name "range" p) [a] [] pos) (fRng1 fs) := by
  obtain ⟨t, pp, s⟩ := ha.ex
  refine ⟨_, pi_range1 hg hm pp hs, ⟨fun hq env x e z => ?_, fun B ω σ H env R G z => ?_⟩⟩
  · obtain ⟨a, e1, z1, z2⟩ := Rs.bind_st (env := env) z
    split at z2
    · split at z2 <;> cases z2
      exact s.st hq _ _ _ z1
    · cases z2
  · refine s.run B ω σ H env _ G ((EPost.bind (q1 := q) (q2 := true) (by rw [Bool.and_true]; exact z)).imp fun xs e ω1 H1 _ ev1 qu1 G1 h1 => fun vs rv => ?_)
    split at h1
    · rename_i j hfe
      split at h1
      · rename_i hj
        obtain ⟨v, rfl, r⟩ := rv.one
        cases (show RW X.K ω1 H1 v (.int j) from r)
        exact ⟨j, rfl, (rOk_le hj).1, (rOk_le hj).2, EPost.ok_here G1 h1 _ items_rng⟩
      · exact h1.elim
    · exact h1.elim
theorem vi_rng2 {p : Pos} {fs : En → Rs (List Vl)} (hg : Gl X "range") (hm : X.mg "range" = none) (ha : VA X W q [a, b] fs) (hs : starEach [a, b] X.env = [(false, eval a X.env), (false, eval b X.env)] := by rfl) (hs2 : starEach [b] X.env = [(false, eval b X.env)] := by rfl) :
    VI X W q tg (.Call (.Name "range" p) [a, b] [] pos) (fRng2 fs) := by
  obtain ⟨t, pp, s⟩ := ha.ex
  refine ⟨_, pi_range2 hg hm pp hs hs2, ⟨fun hq env x e z => ?_, fun B ω σ H env R G z => ?_⟩⟩
  · obtain ⟨a, e1, z1, z2⟩ := Rs.bind_st (env := env) z
    split at z2
    · split at z2 <;> cases z2
      exact s.st hq _ _ _ z1
    · cases z2
  · refine s.run B ω σ H env _ G ((EPost.bind (q1 := q) (q2 := true) (by rw [Bool.and_true]; exact z)).imp fun xs e ω1 H1 _ ev1 qu1 G1 h1 => fun vs rv => ?_)
    split at h1
    · rename_i i j hfe
      split at h1
      · rename_i hj
        obtain ⟨v, u, rfl, r, r'⟩ := rv.two
        cases (show RW X.K ω1 H1 v (.int i) from r)
        cases (show RW X.K ω1 H1 u (.int j) from r')
        rw [Bool.and_eq_true] at hj
        exact ⟨i, j, rfl, ⟨(rOk_le hj.1).1, (rOk_le hj.1).2, (rOk_le hj.2).1, (rOk_le hj.2).2⟩, EPost.ok_here G1 h1 _ items_rng⟩
      · exact h1.elim
    · exact h1.elim
/-- enumerate(xs), zip(xs, ys) -/
def enumW : Nat → List PyData → List PyData
  | _, [] => []
  | n, w :: ws => .tuple [.int (n : Int), w] :: enumW (n + 1) ws
theorem enumW_get : ∀ {n : Nat} {ws : List PyData} {i : Nat}, (enumW n ws)[i]? = ws[i]?.map fun w => .tuple [.int ((n + i : Nat) : Int), w]
  | n, [], i => by simp [enumW]
  | n, w :: ws, 0 => by simp [enumW]
  | n, w :: ws, i + 1 => by
    simp only [enumW, List.getElem?_cons_succ]
    rw [enumW_get (n := n + 1) (ws := ws) (i := i)]
    have : n + 1 + i = n + (i + 1) := by omega
    rw [this]
theorem enumW_len : ∀ {n : Nat} {ws : List PyData}, (enumW n ws).length = ws.length
  | _, [] => rfl
  | n, w :: ws => by simp [enumW, enumW_len (n := n + 1) (ws := ws)]
def fEnum (fs : En → Rs (List Vl)) : En → Rs (List PyData) := fun env => (fs env).bind fun xs e => match xs with
  | [.lf (.list ws)] => .ok (enumW 0 ws) e
  | _ => .bad
theorem vi_enum {p tpos : Pos} {elts : List Expr} {kk : Nat} {fs : En → Rs (List Vl)} (hg : Gl X "enumerate") (hm : X.mg "enumerate" = none) (ha : VA X W q [a] fs) (hs : starEach [a] X.env = [(false, eval a X.env)] := by rfl) : VI X W q (.Tuple elts kk tpos) (.Call (.Name "enumerate" p) [a] [] pos) (fEnum fs) := by
  obtain ⟨t, pp, s⟩ := ha.ex
  refine ⟨_, pi_enum hg hm pp hs, ⟨fun hq env x e z => ?_, fun B ω σ H env R G z => ?_⟩⟩
  · obtain ⟨a, e1, z1, z2⟩ := Rs.bind_st (env := env) z
    split at z2 <;> cases z2
    exact s.st hq _ _ _ z1
  · refine s.run B ω σ H env _ G ((EPost.bind (q1 := q) (q2 := true) (by rw [Bool.and_true]; exact z)).imp fun xs e ω1 H1 _ ev1 qu1 G1 h1 => fun vs rv => ?_)
    split at h1
    · rename_i ws hfe
      obtain ⟨v, rfl, r⟩ := rv.one
      cases (show RW X.K ω1 H1 v (.list ws) from r) with
      | @lst a vs _ f l g =>
        refine ⟨a, vs, rfl, f.sq, EPost.ok_here G1 h1 _ fun i ω2 H2 ev wf => ?_⟩
        have s1 := (f.evoF ev).sq
        refine ⟨fun h => ⟨vs, s1, by rw [enumW_len] at h; rw [l]; exact h⟩, fun w hw => ?_⟩
        rw [enumW_get] at hw
        cases hc : ws[i]? with
        | none => rw [hc] at hw; cases hw
        | some u =>
          rw [hc] at hw
          have hw : PyData.tuple [.int ((0 + i : Nat) : Int), u] = w := Option.some.inj hw
          subst hw
          have hlt : i < vs.length := by rw [l]; exact (List.getElem?_eq_some_iff.mp hc).1
          refine ⟨⟨vs, vs[i], s1, by simp [hlt]⟩, fun x H3 hx => ?_⟩
          obtain ⟨T, y, rfl, hT, rfl, hy⟩ := hx
          refine ⟨.inr ⟨T, _, hT, rfl⟩, ?_⟩
          have ry : RW X.K ω2 H2 y u := (g i y u (hy vs s1) hc).evoF ev
          have q2 : Quiet ω2 H2 ω2 (upd H2 T (.tup [.int (i : Nat), y])) := .alloc hT
          refine .tup ⟨upd_same, wf T (.of hT)⟩ rfl fun j v' w' e1 e2 => ?_
          cases j with
          | zero => simp at e1 e2; subst e1; subst e2; exact .int _
          | succ j =>
            cases j with
            | zero => simp at e1 e2; subst e1; subst e2; exact ry.evo q2.evo
            | succ j => simp at e1
    · exact h1.elim
def zipW : List PyData → List PyData → List PyData
  | x :: xs, y :: ys => .tuple [x, y] :: zipW xs ys
  | _, _ => []
theorem zipW_get : ∀ {xs ys : List PyData} {i : Nat} {w : PyData}, (zipW xs ys)[i]? = some w → ∃ x y, xs[i]? = some x ∧ ys[i]? = some y ∧ w = .tuple [x, y]
  | [], ys, i, w, h => by simp [zipW] at h
  | x :: xs, [], i, w, h => by simp [zipW] at h
  | x :: xs, y :: ys, 0, w, h => by simp [zipW] at h; exact ⟨x, y, rfl, rfl, h.symm⟩
  | x :: xs, y :: ys, i + 1, w, h => by
    simp only [zipW, List.getElem?_cons_succ] at h ⊢
    exact zipW_get h
theorem zipW_end : ∀ {xs ys : List PyData} {i : Nat}, (zipW xs ys).length ≤ i → xs.length ≤ i ∨ ys.length ≤ i
  | [], ys, i, h => .inl (Nat.zero_le _)
  | x :: xs, [], i, h => .inr (Nat.zero_le _)
  | x :: xs, y :: ys, 0, h => by simp [zipW] at h
  | x :: xs, y :: ys, i + 1, h => by
    simp only [zipW, List.length_cons] at h ⊢
    rcases zipW_end (xs := xs) (ys := ys) (i := i) (by omega) with h | h
    · exact .inl (by omega)
    · exact .inr (by omega)
def fZip (fs : En → Rs (List Vl)) : En → Rs (List PyData) := fun env => (fs env).bind fun xs e => match xs with
  | [.lf (.list ws), .lf (.list us)] => .ok (zipW ws us) e
  | _ => .bad
theorem vi_zip {p tpos : Pos} {elts : List Expr} {kk : Nat} {fs : En → Rs (List Vl)} (hg : Gl X "zip") (hm : X.mg "zip" = none) (ha : VA X W q [a, b] fs)
    (hs : starEach [a, b] X.env = (false, eval a X.env) :: starEach [b] X.env := by rfl) (hpl : (backTo pos (starEach [b] X.env)).any (·.1) = false := by rfl) : VI X W q (.Tuple elts kk tpos) (.Call (.Name "zip" p) [a, b] [] pos) (fZip fs) := by
  obtain ⟨t, pp, s⟩ := ha.ex
  refine ⟨_, pi_zip hg hm pp hs hpl, ⟨fun hq env x e z => ?_, fun B ω σ H env R G z => ?_⟩⟩
  · obtain ⟨a, e1, z1, z2⟩ := Rs.bind_st (env := env) z
    split at z2 <;> cases z2
    exact s.st hq _ _ _ z1
  · refine s.run B ω σ H env _ G ((EPost.bind (q1 := q) (q2 := true) (by rw [Bool.and_true]; exact z)).imp fun xs e ω1 H1 _ ev1 qu1 G1 h1 => fun vs rv => ?_)
    split at h1
    · rename_i ws us hfe
      obtain ⟨v, u, rfl, r, r'⟩ := rv.two
      cases (show RW X.K ω1 H1 v (.list ws) from r) with
      | @lst a vs _ f l g =>
        cases (show RW X.K ω1 H1 u (.list us) from r') with
        | @lst a2 vs2 _ f2 l2 g2 =>
          refine ⟨a, a2, vs, vs2, rfl, f.sq, f2.sq, EPost.ok_here G1 h1 _ fun i ω2 H2 ev wf => ?_⟩
          have s1 := (f.evoF ev).sq
          have s2 := (f2.evoF ev).sq
          refine ⟨fun h => ⟨vs, vs2, s1, s2, (zipW_end h).imp (fun z => by rw [l]; exact z) fun z => by rw [l2]; exact z⟩, fun w hw => ?_⟩
          obtain ⟨x1, y1, hx1, hy1, rfl⟩ := zipW_get hw
          have hlt : i < vs.length := by rw [l]; exact (List.getElem?_eq_some_iff.mp hx1).1
          have hlt2 : i < vs2.length := by rw [l2]; exact (List.getElem?_eq_some_iff.mp hy1).1
          refine ⟨⟨vs, vs2, vs[i], vs2[i], s1, s2, by simp [hlt], by simp [hlt2]⟩, fun x H3 hx => ?_⟩
          obtain ⟨T, x', y', rfl, hT, rfl, hx', hy'⟩ := hx
          refine ⟨.inr ⟨T, _, hT, rfl⟩, ?_⟩
          have rx : RW X.K ω2 H2 x' x1 := (g i x' x1 (hx' vs s1) hx1).evoF ev
          have ry : RW X.K ω2 H2 y' y1 := (g2 i y' y1 (hy' vs2 s2) hy1).evoF ev
          have q2 : Quiet ω2 H2 ω2 (upd H2 T (.tup [x', y'])) := .alloc hT
          refine .tup ⟨upd_same, wf T (.of hT)⟩ rfl fun j v' w' e1 e2 => ?_
          cases j with
          | zero => simp at e1 e2; subst e1; subst e2; exact rx.evo q2.evo
          | succ j =>
            cases j with
            | zero => simp at e1 e2; subst e1; subst e2; exact ry.evo q2.evo
            | succ j => simp at e1
    · exact h1.elim
end
end MV
set_option Elab.async false
set_option linter.all false
set_option maxRecDepth 100000
set_option maxHeartbeats 4000000
namespace MV
open PySem PySem.Spec PyProof.Rows L2

/-! ### a def as a function on what its parameters hold -/
def fFun (n N : Nat) (kp : Nat → Bool) (body : En → Rs Fl) (os : List O) : Rs O :=
  match body (os.map some ++ List.replicate (N - n) none) with
  | .bad => .bad
  | .ok (.ret o) e => .ok o ((e.take n).mapIdx fun j x => if kp j then x else none)
  | .ok .nx e => .ok (.lf .none) ((e.take n).mapIdx fun j x => if kp j then x else none)
  | .ok _ _ => .bad
  | .ex c e => .ex c ((e.take n).mapIdx fun j x => if kp j then x else none)
section
variable (K : PySem.W.Frag) (mg : Str → Option Value)
def FPost (n : Nat) (ω : Om) (H : Hp) (vs : List V) (Q : VK) (E : XK) : Rs O → Prop
  | .bad => False
  | .ok r ps => ∀ ω' H' v B, Evo ω H ω' H' → n ≤ B → (∀ a p, ω' a = .mine p → ∃ r q, p = r :: q ∧ r < B + 1) → (∀ a, Nw (H' a) → ω' a = .fr) → RO K ω' H' [B] v r →
      (∀ (j : Nat) v o, vs[j]? = some v → ps[j]? = some (some o) → RO K ω' H' [j] v o) → Q v H'
  | .ex c ps => ∀ ω' H' C B, mg c = some (.ref C) → Evo ω H ω' H' → n ≤ B → (∀ a p, ω' a = .mine p → ∃ r q, p = r :: q ∧ r < B + 1) → (∀ a, Nw (H' a) → ω' a = .fr) →
      (∀ (j : Nat) v o, vs[j]? = some v → ps[j]? = some (some o) → RO K ω' H' [j] v o) → E (.ref C) none H'
/-- a def's promise -/
def spM (n : Nat) (F : List O → Rs O) : Sp := fun vs H Q E => ∃ ω os, vs.length = n ∧ os.length = n ∧ (∀ (j : Nat) v o, vs[j]? = some v → os[j]? = some o → RO K ω H [j] v o) ∧
  (∀ a p, ω a = .mine p → ∃ r q, p = r :: q ∧ r < n) ∧ (∀ a, Nw (H a) → ω a = .fr) ∧ FPost K mg n ω H vs Q E (F os)
end
theorem mapIdx_some {α : Type} {l : List (Option α)} {kp : Nat → Bool} {j : Nat} {o : α} (h : (l.mapIdx fun j x => if kp j then x else none)[j]? = some (some o)) : kp j = true ∧ l[j]? = some (some o) := by
  rw [List.getElem?_mapIdx] at h
  cases e : l[j]? with
  | none => rw [e] at h; cases h
  | some x =>
    rw [e] at h
    have h : (if kp j then x else none) = some o := Option.some.inj h
    split at h
    · rename_i hk; exact ⟨hk, by rw [h]⟩
    · cases h
section
variable {P : Program} {w : World} {K : PySem.W.Frag} {mg : Str → Option Value} {base : Heap}
/-- the body's work, from the promise -/
theorem body_run {kp : Nat → Bool} {n N : Nat} {body : En → Rs Fl} {ts : TS} {vs : List V} {H : Hp} {Q : VK} {E : XK} (hN : n ≤ N) (sb : SS K mg (fun cls d _ H => E cls d H) kp ts body) (h : spM K mg n (fFun n N kp body) vs H Q E) :
    ts { nx := fun _ H' => Q .non H', rt := Q } (vs.map some ++ List.replicate (N - n) none) H := by
  obtain ⟨ω, os, hv, ho, hr, hroot, hwf, hF⟩ := h
  have G : Good K N ω (vs.map some ++ List.replicate (N - n) none) H (os.map some ++ List.replicate (N - n) none) := by
    refine ⟨fun i o e => ?_, fun a p z => let ⟨r, q, h1, h2⟩ := hroot a p z; ⟨r, q, h1, Nat.lt_of_lt_of_le h2 hN⟩, hwf, by simp; omega, by simp [hv, ho]⟩
    have hi : i < n := by
      refine Classical.byContradiction fun hc => ?_
      rw [List.getElem?_append_right (by simp; omega)] at e
      rw [List.getElem?_replicate] at e
      split at e <;> cases e
    rw [List.getElem?_append_left (by simp; omega)] at e
    have hiv : i < vs.length := by omega
    refine ⟨vs[i], by rw [List.getElem?_append_left (by simp; omega)]; simp [hiv], hr i _ o (by simp [hiv]) ?_⟩
    rw [List.getElem?_map] at e
    cases z : os[i]? with
    | none => rw [z] at e; cases e
    | some x => rw [z] at e; cases e; rfl
  have keepv : ∀ {σ' : L2.St}, Keep kp (vs.map some ++ List.replicate (N - n) none) σ' → ∀ (j : Nat) v, j < n → kp j = true → vs[j]? = some v → σ'[j]? = some (some v) := fun {σ'} k j v hj hk hjv => by
    rw [k j hk, List.getElem?_append_left (by simp; omega), List.getElem?_map, hjv]; rfl
  have params : ∀ {B : Nat} {ω' : Om} {σ' : L2.St} {H' : Hp} {e : En}, Keep kp (vs.map some ++ List.replicate (N - n) none) σ' → Good K B ω' σ' H' e →
      ∀ (j : Nat) v o, vs[j]? = some v → ((e.take n).mapIdx fun j x => if kp j then x else none)[j]? = some (some o) → RO K ω' H' [j] v o := fun {B ω' σ' H' e} k G' j v o hj hp => by
    obtain ⟨hk, hp⟩ := mapIdx_some hp
    rw [List.getElem?_take] at hp
    split at hp
    · rename_i hjn
      obtain ⟨u, h1, h2⟩ := G'.rel j o hp
      rw [keepv k j v hjn hk hj] at h1
      cases h1
      exact h2
    · cases hp
  refine sb N ω _ H _ _ G ?_
  unfold fFun at hF
  cases z : body (os.map some ++ List.replicate (N - n) none) with
  | bad => rw [z] at hF; exact hF.elim
  | ex c e =>
    rw [z] at hF
    exact fun ω' σ' H' C hC ev ke G' => hF ω' H' C N hC ev hN (fun a p q => let ⟨r, x, h1, h2⟩ := G'.root a p q; ⟨r, x, h1, Nat.lt_succ_of_lt h2⟩) G'.wf (params ke G')
  | ok fl e =>
    rw [z] at hF
    cases fl with
    | nx => exact fun ω' σ' H' ev ke G' => hF ω' H' .non N ev hN (fun a p q => let ⟨r, x, h1, h2⟩ := G'.root a p q; ⟨r, x, h1, Nat.lt_succ_of_lt h2⟩) G'.wf (.lf .non) (params ke G')
    | bk => exact hF.elim
    | ct => exact hF.elim
    | ret o => exact fun ω' σ' H' v ev ke G' r => hF ω' H' v N ev hN G'.root G'.wf r (params ke G')
/-- THE RULE for a def: its body's function -/
theorem fun_okM {x qual : Str} {st : Stmt} {f : Addr} {fd : FuncData} {N ps : List Str} {k : Nat} {kp : Nat → Bool} {body : En → Rs Fl} (F : Fun K x qual st f fd) (S : FnScope N ps (defScope st)) (hN : ps.length ≤ N.length)
    (hbody : ∀ (X : Cx) (W : WX), X.prog = P → X.w = w → X.K = K → X.mg = mg → X.base = base → X.N = N → X.calm = true → X.fn = (fun _ => true) → Room k X.A → Takes X W → PassesOwn (model X.prog X.w) X.A X.env X.xe → X.stack = X.env :: X.outer → X.env.frame = some X.env.locals → X.env.scope = defScope st →
      VSs X W kp (defBody st) body) : FnOk P w K mg base (L2.CX P w) (k + 1) f fd ps (spM K mg ps.length (fFun ps.length N.length kp body)) := by
  refine F.okX S (fun vs H Q E h => let ⟨_, _, h1, _⟩ := h; h1) fun cdv A outer s H vs Q E hr hsp => ?_
  have tk : Takes (cxOf (L2.CX P w) P w K mg base N qual (defScope st) f cdv A outer s H E) (fun cls d _ H => E cls d H) := takes_of rfl rfl rfl rfl
  have po : PassesOwn (model P w) (A.deeper (envOfC qual (defScope st) s.heap.objs.size f cdv)) (envOfC qual (defScope st) s.heap.objs.size f cdv) (cxOf (L2.CX P w) P w K mg base N qual (defScope st) f cdv A outer s H E).xe := passes_of rfl
  obtain ⟨ts, p, sb⟩ := (hbody (cxOf (L2.CX P w) P w K mg base N qual (defScope st) f cdv A outer s H E) (fun cls d _ H => E cls d H) rfl rfl rfl rfl rfl rfl rfl rfl hr tk po rfl rfl rfl).ex
  refine ⟨ts, p, ?_⟩
  have hl : vs.length = ps.length := let ⟨_, _, h1, _⟩ := hsp; h1
  show ts _ (vs.map some ++ List.replicate (N.length - vs.length) none) H
  rw [hl]
  exact body_run hN sb hsp
end
end MV
set_option Elab.async false
set_option linter.all false
set_option maxRecDepth 100000
set_option maxHeartbeats 4000000
namespace MV
open PySem PySem.Spec PyProof.Rows L2

/-! ### arguments of an own def -/
inductive Arg where
  | va (w : PyData)
  | mv (i : Nat)
def RA (K : PySem.W.Frag) (ω : Om) (σ : L2.St) (H : Hp) (v : V) : Arg → Prop
  | .va w => RW K ω H v w
  | .mv i => σ[i]? = some (some v)
def RAs (K : PySem.W.Frag) (ω : Om) (σ : L2.St) (H : Hp) (vs : List V) (xs : List Arg) : Prop := vs.length = xs.length ∧ ∀ (i : Nat) v x, vs[i]? = some v → xs[i]? = some x → RA K ω σ H v x
section
variable (K : PySem.W.Frag) (mg : Str → Option Value) (W : WX)
structure SAC (n : Nat) (q m : Bool) (ta : TA) (f : En → Rs (List Arg)) : Prop where
  len : ∀ env xs e, f env = .ok xs e → xs.length = n
  st : q = true → ∀ env x e, f env = .ok x e → e = env
  nomv : m = true → ∀ env xs e, f env = .ok xs e → ∀ x ∈ xs, ∃ w, x = .va w
  run : ∀ B ω σ H env Q, Good K B ω σ H env → EPost K mg W q B ω σ H (fun xs _ ω' H' => ∀ vs, RAs K ω' σ H' vs xs → Q vs H') (f env) → ta σ H Q
end
structure VAC (X : Cx) (W : WX) (q m : Bool) (es : List Expr) (f : En → Rs (List Arg)) : Prop where
  ex : ∃ ta, PA X es ta ∧ SAC X.K X.mg W es.length q m ta f
section
variable {K : PySem.W.Frag} {ω ω' : Om} {σ : L2.St} {H H' : Hp}
theorem RA.evo {v : V} {x : Arg} (ev : Evo ω H ω' H') (h : RA K ω σ H v x) : RA K ω' σ H' v x := by
  cases x with
  | va w => exact RW.evo ev h
  | mv i => exact h
theorem RAs.cons {v : V} {x : Arg} {vs : List V} {xs : List Arg} (h : RA K ω σ H v x) (t : RAs K ω σ H vs xs) : RAs K ω σ H (v :: vs) (x :: xs) :=
  ⟨by simp [t.1], fun i v' w' e1 e2 => by
    cases i with
    | zero => simp at e1 e2; subst e1; subst e2; exact h
    | succ i => simp at e1 e2; exact t.2 i v' w' e1 e2⟩
end
section
variable {X : Cx} {W : WX} {kp : Nat → Bool} {q q1 q2 q3 m : Bool} {e a b c : Expr} {es rest : List Expr} {pos : Pos} {f fa fb fc fe : En → Rs Vl} {fr : En → Rs (List Arg)}
def aNil : En → Rs (List Arg) := fun env => .ok [] env
def aVal (f : En → Rs Vl) (fr : En → Rs (List Arg)) : En → Rs (List Arg) := fun env => (f env).bind fun x e => match x with
  | .lf w => (fr e).bind fun xs e' => .ok (.va w :: xs) e'
  | .pl _ _ => .bad
def aMv (i : Nat) (fr : En → Rs (List Arg)) : En → Rs (List Arg) := fun env => match env[i]? with
  | some (some (.lf w)) => (fr env).bind fun xs e' => .ok (.va w :: xs) e'
  | some (some _) => (fr env).bind fun xs e' => .ok (.mv i :: xs) e'
  | _ => .bad
theorem vac_nil : VAC X W true true [] aNil := ⟨_, pa_nil, ⟨fun env xs e h => by cases h; rfl, fun _ env x e h => by cases h; rfl, (fun _ env xs e h => by cases h; intro x z; cases z), fun B ω σ H env Q G h => EPost.ok_here G h _ ⟨rfl, fun i v w e => by simp at e⟩⟩⟩
theorem vac_val (h : VE X W q1 e f) (hr : VAC X W q2 m es fr) (hs : starEach (e :: es) X.env = (false, eval e X.env) :: starEach es X.env := by rfl) : VAC X W (q1 && q2) m (e :: es) (aVal f fr) := by
  obtain ⟨t, p, s⟩ := h.ex
  obtain ⟨t', p', s'⟩ := hr.ex
  refine ⟨_, pa_cons p p' hs, ⟨fun env xs e z => ?_, fun hq env x e z => ?_, fun hm env xs e z => ?_, fun B ω σ H env Q G z => ?_⟩⟩
  · obtain ⟨a, e1, z1, z2⟩ := Rs.bind_st (env := env) z
    split at z2
    · obtain ⟨b, e2, z3, z4⟩ := Rs.bind_st (env := env) z2
      cases z4
      simp [s'.len _ _ _ z3]
    · cases z2
  · obtain ⟨h1, h2⟩ := Bool.and_eq_true_iff.mp hq
    obtain ⟨a, e1, z1, z2⟩ := Rs.bind_st (env := env) z
    split at z2
    · obtain ⟨b, e2, z3, z4⟩ := Rs.bind_st (env := env) z2
      cases z4
      rw [s'.st h2 _ _ _ z3, s.st h1 _ _ _ z1]
    · cases z2
  · obtain ⟨a, e1, z1, z2⟩ := Rs.bind_st (env := env) z
    split at z2
    · rename_i w
      obtain ⟨b, e2, z3, z4⟩ := Rs.bind_st (env := env) z2
      cases z4
      intro x hx
      rcases List.mem_cons.mp hx with rfl | hx
      · exact ⟨_, rfl⟩
      · exact s'.nomv hm _ _ _ z3 x hx
    · cases z2
  · refine s.run B ω σ H env _ G ((EPost.bind z).imp fun x e ω1 H1 _ ev1 qu1 G1 h1 => fun v rv => ?_)
    split at h1
    · refine s'.run B ω1 σ H1 e _ G1 ((EPost.bind (q1 := q2) (q2 := true) (by rw [Bool.and_true]; exact h1)).imp fun xs e' ω2 H2 _ ev2 qu2 G2 h2 => fun vs rvs => ?_)
      exact EPost.ok_here G2 h2 _ (RAs.cons (RW.evo ev2 rv) rvs)
    · exact h1.elim
theorem vac_mv {i : Nat} {x : Str} (hr : VAC X W q m es fr) (hN : X.N[i]? = some x := by rfl) (hv : Vis X.env.scope x := by first | exact Or.inl rfl | exact Or.inr (Or.inl rfl) | exact Or.inr (Or.inr rfl)) (hd : (x == ("__debug__" : Str)) = false := by decide)
    (hcd : (x == ("__classdict__" : Str)) = false := by decide) (hs : starEach (.Name x pos :: es) X.env = (false, eval (.Name x pos) X.env) :: starEach es X.env := by rfl) : VAC X W q false (.Name x pos :: es) (aMv i fr) := by
  obtain ⟨t', p', s'⟩ := hr.ex
  refine ⟨_, pa_cons (pe_var hN hv hd hcd) p' hs, ⟨fun env xs e z => ?_, fun hq env x e z => ?_, (fun hm => nomatch hm), fun B ω σ H env Q G z => ?_⟩⟩
  · unfold aMv at z
    split at z
    · obtain ⟨b, e2, z3, z4⟩ := Rs.bind_st (env := env) z
      cases z4
      simp [s'.len _ _ _ z3]
    · obtain ⟨b, e2, z3, z4⟩ := Rs.bind_st (env := env) z
      cases z4
      simp [s'.len _ _ _ z3]
    · cases z
  · unfold aMv at z
    split at z
    · obtain ⟨b, e2, z3, z4⟩ := Rs.bind_st (env := env) z
      cases z4
      exact s'.st hq _ _ _ z3
    · obtain ⟨b, e2, z3, z4⟩ := Rs.bind_st (env := env) z
      cases z4
      exact s'.st hq _ _ _ z3
    · cases z
  · unfold aMv at z
    split at z
    · rename_i w hw
      obtain ⟨v, h1, h2⟩ := G.rel i _ hw
      cases h2 with
      | lf r =>
        refine ⟨v, h1, s'.run B ω σ H env _ G ((EPost.bind (q1 := q) (q2 := true) (by rw [Bool.and_true]; exact z)).imp fun xs e' ω2 H2 _ ev2 qu2 G2 h2 => fun vs rvs => ?_)⟩
        exact EPost.ok_here G2 h2 _ (RAs.cons (RW.evo ev2 r) rvs)
    · rename_i o hne hw
      obtain ⟨v, h1, h2⟩ := G.rel i _ hw
      refine ⟨v, h1, s'.run B ω σ H env _ G ((EPost.bind (q1 := q) (q2 := true) (by rw [Bool.and_true]; exact z)).imp fun xs e' ω2 H2 _ ev2 qu2 G2 h2 => fun vs rvs => ?_)⟩
      exact EPost.ok_here G2 h2 _ (RAs.cons (x := .mv i) h1 rvs)
    · exact z.elim

/-! ### the things go over, and come back -/
/-- the place among the arguments of the name in slot r -/
def idx (xs : List Arg) (r : Nat) : Option Nat := xs.findIdx? fun x => match x with
  | .mv i => i == r
  | _ => false
def mvs : List Arg → List Nat
  | [] => []
  | .va _ :: xs => mvs xs
  | .mv i :: xs => i :: mvs xs
def takeA (e : En) : List Arg → Option (List O)
  | [] => some []
  | .va w :: xs => (takeA e xs).map (.lf w :: ·)
  | .mv i :: xs => match e[i]? with
    | some (some o) => (takeA e xs).map (o :: ·)
    | _ => none
def putA : List Arg → List (Option O) → En → Option En
  | [], _, e => some e
  | .va _ :: xs, _ :: ps, e => putA xs ps e
  | .mv i :: xs, some o :: ps, e => putA xs ps (e.set i (some o))
  | _, _, _ => none
theorem takeA_get {e : En} : ∀ {xs : List Arg} {os : List O}, takeA e xs = some os → os.length = xs.length ∧ ∀ (j : Nat) x o, xs[j]? = some x → os[j]? = some o → (match x with
    | .va w => o = .lf w
    | .mv i => e[i]? = some (some o))
  | [], os, h => by cases h; exact ⟨rfl, fun j x o h => by simp at h⟩
  | .va w :: xs, os, h => by
    rw [takeA] at h
    cases z : takeA e xs with
    | none => rw [z] at h; cases h
    | some os' =>
      rw [z] at h; cases h
      obtain ⟨l, g⟩ := takeA_get z
      refine ⟨by simp [l], fun j x o h1 h2 => ?_⟩
      cases j with
      | zero => simp at h1 h2; subst h1; subst h2; rfl
      | succ j => simp at h1 h2; exact g j x o h1 h2
  | .mv i :: xs, os, h => by
    rw [takeA] at h
    split at h
    · rename_i o ho
      cases z : takeA e xs with
      | none => rw [z] at h; cases h
      | some os' =>
        rw [z] at h; cases h
        obtain ⟨l, g⟩ := takeA_get z
        refine ⟨by simp [l], fun j x o h1 h2 => ?_⟩
        cases j with
        | zero => simp at h1 h2; subst h1; subst h2; exact ho
        | succ j => simp at h1 h2; exact g j x o h1 h2
    · cases h
theorem mvs_mem : ∀ {xs : List Arg} {j i : Nat}, xs[j]? = some (.mv i) → i ∈ mvs xs
  | [], j, i, h => by simp at h
  | x :: xs, 0, i, h => by simp at h; subst h; simp [mvs]
  | .va _ :: xs, j + 1, i, h => by simp at h; exact mvs_mem (xs := xs) h
  | .mv _ :: xs, j + 1, i, h => by simp at h; exact List.mem_cons_of_mem _ (mvs_mem (xs := xs) h)
theorem mvs_inj : ∀ {xs : List Arg} {j k i : Nat}, (mvs xs).Nodup → xs[j]? = some (.mv i) → xs[k]? = some (.mv i) → j = k
  | [], j, k, i, _, h, _ => by simp at h
  | .va _ :: xs, 0, k, i, _, h, _ => by simp at h
  | .va _ :: xs, j + 1, 0, i, _, _, h => by simp at h
  | .va _ :: xs, j + 1, k + 1, i, nd, h1, h2 => by simp at h1 h2; rw [mvs_inj (xs := xs) nd h1 h2]
  | .mv _ :: xs, 0, 0, i, _, _, _ => rfl
  | .mv a :: xs, 0, k + 1, i, nd, h1, h2 => by
    simp at h1 h2; subst h1
    exact absurd (mvs_mem h2) (List.nodup_cons.mp nd).1
  | .mv a :: xs, j + 1, 0, i, nd, h1, h2 => by
    simp at h1 h2; subst h2
    exact absurd (mvs_mem h1) (List.nodup_cons.mp nd).1
  | .mv _ :: xs, j + 1, k + 1, i, nd, h1, h2 => by simp at h1 h2; rw [mvs_inj (xs := xs) (List.nodup_cons.mp nd).2 h1 h2]
theorem idx_some {xs : List Arg} {r j : Nat} (h : idx xs r = some j) : xs[j]? = some (.mv r) := by
  unfold idx at h
  obtain ⟨hj, hp, _⟩ := List.findIdx?_eq_some_iff_getElem.mp h
  rw [List.getElem?_eq_getElem hj]
  split at hp
  · rename_i i hi
    rw [hi]
    simp at hp
    rw [hp]
  · cases hp
theorem idx_of {xs : List Arg} {r j : Nat} (nd : (mvs xs).Nodup) (h : xs[j]? = some (.mv r)) : idx xs r = some j := by
  cases z : idx xs r with
  | some k => rw [mvs_inj nd (idx_some z) h]
  | none =>
    unfold idx at z
    rw [List.findIdx?_eq_none_iff] at z
    have := z _ (List.mem_of_getElem? h)
    simp at this
theorem idx_none {xs : List Arg} {r : Nat} (h : r ∉ mvs xs) : idx xs r = none := by
  cases z : idx xs r with
  | none => rfl
  | some k => exact absurd (mvs_mem (idx_some z)) h
theorem putA_get : ∀ {xs : List Arg} {ps : List (Option O)} {e e' : En}, (mvs xs).Nodup → putA xs ps e = some e' → e'.length = e.length ∧ ∀ (i : Nat) o, e'[i]? = some (some o) → (i ∉ mvs xs ∧ e[i]? = some (some o)) ∨ ∃ (j : Nat), xs[j]? = some (Arg.mv i) ∧ ps[j]? = some (some o)
  | [], ps, e, e', _, h => by cases h; exact ⟨rfl, fun i o h => .inl ⟨by simp [mvs], h⟩⟩
  | .va w :: xs, [], e, e', _, h => by simp [putA] at h
  | .va w :: xs, p :: ps, e, e', nd, h => by
    rw [putA] at h
    obtain ⟨l, g⟩ := putA_get (xs := xs) nd h
    refine ⟨l, fun i o hi => ?_⟩
    rcases g i o hi with h1 | ⟨j, h1, h2⟩
    · exact .inl h1
    · exact .inr ⟨j + 1, by simpa using h1, by simpa using h2⟩
  | .mv a :: xs, [], e, e', _, h => by simp [putA] at h
  | .mv a :: xs, none :: ps, e, e', _, h => by simp [putA] at h
  | .mv a :: xs, some p :: ps, e, e', nd, h => by
    rw [putA] at h
    obtain ⟨nm, nd'⟩ := List.nodup_cons.mp nd
    obtain ⟨l, g⟩ := putA_get (xs := xs) nd' h
    refine ⟨by simpa using l, fun i o hi => ?_⟩
    rcases g i o hi with ⟨h1, h2⟩ | ⟨j, h1, h2⟩
    · by_cases hia : i = a
      · subst hia
        have hl : i < e.length := by
          have := (List.getElem?_eq_some_iff.mp h2).1
          simpa using this
        rw [List.getElem?_set_self hl] at h2
        cases h2
        exact .inr ⟨0, rfl, rfl⟩
      · rw [List.getElem?_set_ne (Ne.symm hia)] at h2
        exact .inl ⟨by simp [mvs, hia, h1], h2⟩
    · exact .inr ⟨j + 1, by simpa using h1, by simpa using h2⟩

theorem mvs_nil : ∀ {xs : List Arg}, (∀ x ∈ xs, ∃ w, x = .va w) → mvs xs = []
  | [], _ => rfl
  | .va w :: xs, h => mvs_nil (xs := xs) fun y hy => h y (List.mem_cons_of_mem _ hy)
  | .mv i :: xs, h => by obtain ⟨w, hw⟩ := h _ List.mem_cons_self; cases hw
/-- whose things are whose within the call -/
def ωc (xs : List Arg) (ω : Om) : Om := fun a => match ω a with
  | .fr => .fr
  | .out => .out
  | .mine [] => .out
  | .mine (r :: q) => match idx xs r with
    | some j => .mine (j :: q)
    | none => .out
/-- and behind it; B: the answer's root becomes B' -/
def ωb (xs : List Arg) (ω ω' : Om) (B B' : Nat) : Om := fun a => match ω' a with
  | .fr => .fr
  | .out => ω a
  | .mine [] => .fr
  | .mine (r :: q) => if r = B then .mine (B' :: q) else match xs[r]? with
    | some (.mv i) => .mine (i :: q)
    | _ => .fr
/-- what is frozen or another's stays so -/
structure Drop (ω ω' : Om) (H : Hp) : Prop where
  fr : ∀ a, ω a = .fr → ω' a = .fr
  out : ∀ a, ω a = .out → ω' a = .out
  back : ∀ a, ω' a = .out → ω a = .out
theorem Drop.evo {ω ω' : Om} {H : Hp} (d : Drop ω ω' H) : Evo ω H ω' H := ⟨fun a o e q => ⟨d.fr a q, e⟩, fun a o e q => ⟨d.out a q, e⟩, d.back, fun _ _ _ e => e⟩
theorem RW.tr {K : PySem.W.Frag} {ω ω' : Om} {H H' : Hp} {v : V} {w : PyData} (hf : ∀ a x, H a = some x → ω a = .fr → ω' a = .fr ∧ H' a = some x) (h : RW K ω H v w) : RW K ω' H' v w := by
  induction h with
  | non => exact .non
  | bl b => exact .bl b
  | int i => exact .int i
  | str x => exact .str x
  | lst f l _ ih =>
    refine .lst ?_ l ih
    rcases f with ⟨f | ⟨o, f⟩, e⟩ | f
    · exact .inl ⟨.inl (hf _ _ f e).2, (hf _ _ f e).1⟩
    · exact .inl ⟨.inr ⟨o, (hf _ _ f e).2⟩, (hf _ _ f e).1⟩
    · exact .inr f
  | tup f l _ ih => exact .tup ⟨(hf _ _ f.1 f.2).2, (hf _ _ f.1 f.2).1⟩ l ih
theorem ωc_mine {xs : List Arg} {ω : Om} {a : Addr} {i j : Nat} {z : List Nat} (nd : (mvs xs).Nodup) (hj : xs[j]? = some (.mv i)) (h : ω a = .mine (i :: z)) : ωc xs ω a = .mine (j :: z) := by
  unfold ωc
  rw [h]
  simp only [idx_of nd hj]
theorem ωc_fr {xs : List Arg} {ω : Om} {a : Addr} (h : ω a = .fr) : ωc xs ω a = .fr := by unfold ωc; rw [h]
theorem ωc_fr' {xs : List Arg} {ω : Om} {a : Addr} (h : ωc xs ω a = .fr) : ω a = .fr := by
  unfold ωc at h
  split at h
  · assumption
  · cases h
  · cases h
  · split at h <;> cases h
theorem ωc_root {xs : List Arg} {ω : Om} {a : Addr} {p : List Nat} (h : ωc xs ω a = .mine p) : ∃ r z, p = r :: z ∧ r < xs.length := by
  unfold ωc at h
  split at h
  · cases h
  · cases h
  · cases h
  · split at h
    · rename_i j hj
      cases h
      exact ⟨_, _, rfl, (List.getElem?_eq_some_iff.mp (idx_some hj)).1⟩
    · cases h
/-- places whose root is none of the names' are given up -/
theorem Good.drop {K : PySem.W.Frag} {B B' : Nat} {ω : Om} {σ : L2.St} {H : Hp} {env : En} (G : Good K B ω σ H env) (h : env.length ≤ B') : ∃ ω', Drop ω ω' H ∧ (∀ a r q, ω a = .mine (r :: q) → r < B' → ω' a = .mine (r :: q)) ∧ Good K B' ω' σ H env := by
  refine ⟨fun a => match ω a with
    | .fr => .fr
    | .out => .out
    | .mine [] => .fr
    | .mine (r :: q) => if r < B' then .mine (r :: q) else .fr, ⟨fun a q => by simp only [q], fun a q => by simp only [q], fun a q => ?_⟩, fun a r q e hr => by simp only [e, if_pos hr], fun i o e => ?_, fun a p q => ?_, fun a q => ?_, h, G.len⟩
  · split at q
    · cases q
    · assumption
    · cases q
    · split at q <;> cases q
  · obtain ⟨u, e1, e2⟩ := G.rel i o e
    have hi : i < B' := Nat.lt_of_lt_of_le (List.getElem?_eq_some_iff.mp e).1 h
    refine ⟨u, e1, e2.tr [i] (fun a x q z e => ⟨?_, e⟩) fun a x e z => ⟨by simp only [z], e⟩⟩
    rw [show ω a = .mine (i :: q) from z]
    simp only [if_pos hi]
    rfl
  · split at q
    · cases q
    · cases q
    · cases q
    · split at q
      · rename_i hr; cases q; exact ⟨_, _, rfl, hr⟩
      · cases q
  · simp only [G.wf a q]
/-- the call, at values: from the caller's state into the callee's promise -/
theorem call_run {K : PySem.W.Frag} {mg : Str → Option Value} {F : List O → Rs O} {xs : List Arg} {os : List O} {B : Nat} {ω : Om} {σ : L2.St} {H : Hp} {env : En} {vs : List V} {Q : VK} {E : XK}
    (G : Good K B ω σ H env) (ra : RAs K ω σ H vs xs) (nd : (mvs xs).Nodup) (ht : takeA env xs = some os)
    (hF : match F os with
      | .bad => False
      | .ok r ps => ∃ e', putA xs ps env = some e' ∧ ∀ ω' H' v, Evo ω H ω' H' → (mvs xs = [] → ∀ a o, H a = some o → H' a = some o ∧ ω' a = ω a) → Good K (B + 1) ω' σ H' e' → RO K ω' H' [B] v r → Q v H'
      | .ex c ps => ∃ e', putA xs ps env = some e' ∧ ∀ ω' H' C, mg c = some (.ref C) → Evo ω H ω' H' → Good K B ω' σ H' e' → E (.ref C) none H') : spM K mg xs.length F vs H Q E := by
  obtain ⟨hl, hg⟩ := takeA_get ht
  have hmv : ∀ i, i ∈ mvs xs → ∃ (j : Nat), xs[j]? = some (Arg.mv i) := fun i hi => by
    clear ht hF ra nd hl hg
    induction xs with
    | nil => cases hi
    | cons x xs ih =>
      cases x with
      | va w => obtain ⟨j, h⟩ := ih hi; exact ⟨j + 1, by simpa using h⟩
      | mv k =>
        rcases List.mem_cons.mp hi with rfl | hi
        · exact ⟨0, rfl⟩
        · obtain ⟨j, h⟩ := ih hi; exact ⟨j + 1, by simpa using h⟩
  have hlt : ∀ i, i ∈ mvs xs → i < env.length := fun i hi => by
    obtain ⟨j, hj⟩ := hmv i hi
    have hjo : j < os.length := by rw [hl]; exact (List.getElem?_eq_some_iff.mp hj).1
    have := hg j _ os[j] hj (by simp [hjo])
    exact (List.getElem?_eq_some_iff.mp this).1
  refine ⟨ωc xs ω, os, ra.1, hl, fun j v o h1 h2 => ?_, fun a p h => ωc_root h, fun a h => ωc_fr (G.wf a h), ?_⟩
  · have hj : j < xs.length := by rw [← ra.1]; exact (List.getElem?_eq_some_iff.mp h1).1
    have hx : xs[j]? = some xs[j] := by simp [hj]
    have hr := ra.2 j v _ h1 hx
    have ho := hg j _ o hx h2
    cases z : xs[j] with
    | va w =>
      rw [z] at hr ho
      cases ho
      exact .lf (RW.tr (fun a x e q => ⟨ωc_fr q, e⟩) hr)
    | mv i =>
      rw [z] at hr ho hx
      obtain ⟨u, e1, e2⟩ := G.rel i o ho
      have hr : σ[i]? = some (some v) := hr
      rw [e1] at hr; cases hr
      exact e2.tr [j] (fun a x r q e => ⟨ωc_mine nd hx q, e⟩) fun a x e q => ⟨ωc_fr q, e⟩
  · -- what comes back
    have key : ∀ {ω' : Om} {H' : Hp} {Br : Nat} {ps : List (Option O)} {e' : En}, Evo (ωc xs ω) H ω' H' → xs.length ≤ Br → (∀ a p, ω' a = .mine p → ∃ r q, p = r :: q ∧ r < Br + 1) → (∀ a, Nw (H' a) → ω' a = .fr) →
        (∀ (j : Nat) v o, vs[j]? = some v → ps[j]? = some (some o) → RO K ω' H' [j] v o) → putA xs ps env = some e' →
        Evo ω H (ωb xs ω ω' Br B) H' ∧ (mvs xs = [] → ∀ a o, H a = some o → H' a = some o ∧ ωb xs ω ω' Br B a = ω a) ∧ Good K (B + 1) (ωb xs ω ω' Br B) σ H' e' := by
      intro ω' H' Br ps e' ev hBr hroot hwf hps hput
      obtain ⟨pl, pg⟩ := putA_get nd hput
      have hfr : ∀ a x, H a = some x → ω a = .fr → ωb xs ω ω' Br B a = .fr ∧ H' a = some x := fun a x e q => by
        obtain ⟨h1, h2⟩ := ev.fr a x e (ωc_fr q)
        exact ⟨by unfold ωb; rw [h1], h2⟩
      have hout : ∀ a x, H a = some x → ωc xs ω a = .out → ωb xs ω ω' Br B a = ω a ∧ H' a = some x := fun a x e q => by
        obtain ⟨h1, h2⟩ := ev.out a x e q
        exact ⟨by unfold ωb; rw [h1], h2⟩
      have hcout : ∀ a, ω a = .out → ωc xs ω a = .out := fun a q => by unfold ωc; rw [q]
      have hcmine : ∀ a r z, ω a = .mine (r :: z) → r ∉ mvs xs → ωc xs ω a = .out := fun a r z q n => by
        unfold ωc; rw [q]; simp only [idx_none n]
      refine ⟨⟨hfr, fun a x e q => ?_, fun a q => ?_, ev.frz⟩, fun hm a x e => ?_, ⟨fun i o hi => ?_, fun a p q => ?_, fun a q => ?_, by rw [pl]; exact Nat.le_succ_of_le G.nB, by rw [pl]; exact G.len⟩⟩
      · obtain ⟨h1, h2⟩ := hout a x e (hcout a q)
        exact ⟨h1.trans q, h2⟩
      · unfold ωb at q
        split at q
        · cases q
        · exact q
        · cases q
        · split at q
          · cases q
          · split at q <;> cases q
      · cases z : ω a with
        | fr => exact ⟨(hfr a x e z).2, (hfr a x e z).1⟩
        | out => obtain ⟨h1, h2⟩ := hout a x e (hcout a z); exact ⟨h2, h1.trans z⟩
        | mine p =>
          obtain ⟨r, t, rfl, _⟩ := G.root a p z
          obtain ⟨h1, h2⟩ := hout a x e (hcmine a r t z (by rw [hm]; simp))
          exact ⟨h2, h1.trans z⟩
      · rcases pg i o hi with ⟨hn, h1⟩ | ⟨j, h1, h2⟩
        · obtain ⟨u, e1, e2⟩ := G.rel i o h1
          refine ⟨u, e1, e2.tr [i] (fun a x q z e => ?_) hfr⟩
          obtain ⟨h3, h4⟩ := hout a x e (hcmine a i q z hn)
          exact ⟨h3.trans z, h4⟩
        · have hj : j < vs.length := by rw [ra.1]; exact (List.getElem?_eq_some_iff.mp h1).1
          have hr : σ[i]? = some (some vs[j]) := ra.2 j vs[j] _ (by simp [hj]) h1
          refine ⟨vs[j], hr, (hps j vs[j] o (by simp [hj]) h2).tr [i] (fun a x q z e => ⟨?_, e⟩) fun a x e z => ⟨by unfold ωb; rw [z], e⟩⟩
          have hjB : j ≠ Br := by
            have : j < xs.length := (List.getElem?_eq_some_iff.mp h1).1
            omega
          unfold ωb
          rw [show ω' a = .mine (j :: q) from z]
          simp only [if_neg hjB, h1]
          rfl
      · unfold ωb at q
        split at q
        · cases q
        · obtain ⟨r, z, h1, h2⟩ := G.root a p q
          exact ⟨r, z, h1, Nat.lt_succ_of_lt h2⟩
        · cases q
        · split at q
          · cases q; exact ⟨B, _, rfl, Nat.lt_succ_self _⟩
          · split at q
            · rename_i i hi
              cases q
              exact ⟨i, _, rfl, Nat.lt_succ_of_lt (Nat.lt_of_lt_of_le (hlt i (mvs_mem hi)) G.nB)⟩
            · cases q
      · unfold ωb
        rw [hwf a q]
    cases z : F os with
    | bad => rw [z] at hF; exact hF.elim
    | ok r ps =>
      rw [z] at hF
      obtain ⟨e', hp, hq⟩ := hF
      intro ω' H' v Br ev hBr hroot hwf hv hps
      obtain ⟨k1, k2, k3⟩ := key ev hBr hroot hwf hps hp
      refine hq _ H' v k1 k2 k3 (hv.tr [B] (fun a x q y e => ⟨?_, e⟩) fun a x e y => ⟨by unfold ωb; rw [y], e⟩)
      unfold ωb
      rw [show ω' a = .mine (Br :: q) from y]
      simp only [if_true]
      rfl
    | ex c ps =>
      rw [z] at hF
      obtain ⟨e', hp, hq⟩ := hF
      intro ω' H' C Br hC ev hBr hroot hwf hps
      obtain ⟨k1, k2, k3⟩ := key ev hBr hroot hwf hps hp
      obtain ⟨ω2, d1, _, d2⟩ := k3.drop (B' := B) (by rw [(putA_get nd hp).1]; exact G.nB)
      exact hq ω2 H' C hC (k1.trans d1.evo) d2
end
end MV
set_option Elab.async false
set_option linter.all false
set_option maxRecDepth 100000
set_option maxHeartbeats 4000000
namespace MV
open PySem PySem.Spec PyProof.Rows L2
section
variable {X : Cx} {W : WX} {kp : Nat → Bool} {q q1 q2 q3 m : Bool} {e a b c tg iter elt : Expr} {es rest ifs : List Expr} {pos : Pos} {f fa fb fc fe : En → Rs Vl} {fr : En → Rs (List Arg)} {K : PySem.W.Frag} {mg : Str → Option Value}

/-! ### a call of an own def, a frozen answer -/
def fCallO (F : List O → Rs O) (fr : En → Rs (List Arg)) : En → Rs O := fun env => (fr env).bind fun xs e => if (mvs xs).Nodup then match takeA e xs with
  | some os => match F os with
    | .ok r ps => (match putA xs ps e with
      | some e' => .ok r e'
      | none => .bad)
    | .ex c ps => (match putA xs ps e with
      | some e' => .ex c e'
      | none => .bad)
    | .bad => .bad
  | none => .bad else .bad
/-- what is wanted behind an expression that makes a thing of its own -/
def OPost (K : PySem.W.Frag) (mg : Str → Option Value) (W : WX) (B : Nat) (ω : Om) (σ : L2.St) (H : Hp) (Q : VK) : Rs O → Prop
  | .bad => False
  | .ok o e => ∀ ω' H' v, Evo ω H ω' H' → Good K (B + 1) ω' σ H' e → RO K ω' H' [B] v o → Q v H'
  | .ex c e => ∀ ω' H' C, mg c = some (.ref C) → Evo ω H ω' H' → Good K B ω' σ H' e → W (.ref C) none σ H'
def SEO (K : PySem.W.Frag) (mg : Str → Option Value) (W : WX) (te : TE) (f : En → Rs O) : Prop := ∀ B ω σ H env Q, Good K B ω σ H env → OPost K mg W B ω σ H Q (f env) → te σ H Q
structure VO (X : Cx) (W : WX) (e : Expr) (f : En → Rs O) : Prop where
  ex : ∃ te, PE X e te ∧ SEO X.K X.mg W te f
def fLf (f : En → Rs O) : En → Rs Vl := fun env => (f env).bind fun o e => match o with
  | .lf w => .ok (.lf w) e
  | _ => .bad
theorem Good.drop1 {B : Nat} {ω : Om} {σ : L2.St} {H : Hp} {env : En} (G : Good K (B + 1) ω σ H env) (h : env.length ≤ B) : ∃ ω', Evo ω H ω' H ∧ (∀ v w, RW K ω H v w → RW K ω' H v w) ∧ Good K B ω' σ H env := by
  obtain ⟨ω', d, _, G'⟩ := G.drop h
  exact ⟨ω', d.evo, fun v w r => r.evo d.evo, G'⟩
/-- .. of a frozen answer, as an expression -/
theorem VO.ve (h : VO X W e fo) : VE X W false e (fLf fo) := by
  obtain ⟨t, p, s⟩ := h.ex
  refine ⟨_, p, ⟨fun hq => (nomatch hq), fun B ω σ H env Q G z => s B ω σ H env Q G ?_⟩⟩
  unfold fLf at z
  cases y : fo env with
  | bad => rw [y] at z; exact z
  | ex c e => rw [y] at z; exact z
  | ok o e =>
    rw [y] at z
    intro ω' H' v ev G' r
    have hl : e.length ≤ B := by rw [← G'.len, G.len]; exact G.nB
    obtain ⟨ω2, ev2, hrw, G2⟩ := G'.drop1 hl
    cases o with
    | lf w =>
      cases r with
      | lf r => exact z ω2 H' (ev.trans ev2) (fun hq => nomatch hq) G2 v (hrw _ _ r)
    | _ => exact z.elim
theorem call_bind {xs : List Arg} {e : En} {F : List O → Rs O} {B : Nat} {ω : Om} {σ : L2.St} {H : Hp} {vs : List V} {Q : VK} (G : Good K B ω σ H e) (ra : RAs K ω σ H vs xs)
    (h : OPost K mg W B ω σ H Q (if (mvs xs).Nodup then match takeA e xs with
      | some os => match F os with
        | .ok r ps => (match putA xs ps e with
          | some e' => .ok r e'
          | none => .bad)
        | .ex c ps => (match putA xs ps e with
          | some e' => .ex c e'
          | none => .bad)
        | .bad => .bad
      | none => .bad else .bad)) : spM K mg xs.length F vs H Q (WE W σ) := by
  split at h
  · rename_i nd
    split at h
    · rename_i os ht
      refine call_run G ra nd ht ?_
      cases z : F os with
      | bad => rw [z] at h; exact h
      | ok r ps =>
        rw [z] at h
        have h : OPost K mg W B ω σ H Q (match putA xs ps e with | some e' => .ok r e' | none => .bad) := h
        split at h
        · rename_i e' hp
          exact ⟨e', hp, fun ω' H' v ev _ G' r => h ω' H' v ev G' r⟩
        · exact h.elim
      | ex c ps =>
        rw [z] at h
        have h : OPost K mg W B ω σ H Q (match putA xs ps e with | some e' => .ex c e' | none => .bad) := h
        split at h
        · rename_i e' hp
          exact ⟨e', hp, fun ω' H' C hC ev G' => h ω' H' C hC ev G'⟩
        · exact h.elim
    · exact h.elim
  · exact h.elim
theorem OPost.bindA {α : Type} {B : Nat} {ω : Om} {σ : L2.St} {H : Hp} {Q : VK} {r : Rs α} {k : α → En → Rs O} (h : OPost K mg W B ω σ H Q (r.bind k)) : EPost K mg W q B ω σ H (fun a e ω1 H1 => OPost K mg W B ω1 σ H1 Q (k a e)) r := by
  cases r with
  | bad => exact h
  | ex c e => exact fun ω1 H1 C hC ev G => h ω1 H1 C hC ev G
  | ok a e =>
    intro ω1 H1 ev _ G
    show OPost K mg W B ω1 σ H1 Q (k a e)
    have h : OPost K mg W B ω σ H Q (k a e) := h
    cases z : k a e with
    | bad => rw [z] at h; exact h
    | ok o e' => rw [z] at h; exact fun ω2 H2 v ev2 G2 r => h ω2 H2 v (ev.trans ev2) G2 r
    | ex c e' => rw [z] at h; exact fun ω2 H2 C hC ev2 G2 => h ω2 H2 C hC (ev.trans ev2) G2
theorem takeA_len {e : En} {xs : List Arg} {n : Nat} (h : xs.length = n) : xs.length = n := h
/-- f(..) of an own def -/
theorem vo_call {x : Str} {p : Pos} {k : Nat} {fa : Addr} {fd : FuncData} {ps : List Str} {F : List O → Rs O} {n : Nat} (tk : Takes X W) (Fn : FnOk X.prog X.w X.K X.mg X.base (L2.CX X.prog X.w) k fa fd ps (spM X.K X.mg n F)) (hr : Room k X.A) (hg : Gl X x) (hm : X.mg x = some (.ref fa)) (hk : PySem.W.keepIn X.K (.ref fa) = true) (hb : Binds X.K fd ps [])
    (ha : VAC X W q m (e :: es) fr) (hn : (e :: es).length = n := by rfl) (hdb : (x == ("__debug__" : Str)) = false := by decide) (he : starEach (e :: es) X.env = (false, eval e X.env) :: starEach es X.env := by rfl) (hpl : (backTo pos (starEach es X.env)).any (·.1) = false := by rfl) :
    VO X W (.Call (.Name x p) (e :: es) [] pos) (fCallO F fr) := by
  obtain ⟨ta, pa, sa⟩ := ha.ex
  refine ⟨_, pe_callS (E := WE W) Fn hr hg hm hk hb (fun σ => passAt tk σ) pa hdb he hpl, fun B ω σ H env Q G z => sa.run B ω σ H env _ G ((OPost.bindA z).imp fun xs e ω1 H1 hfe ev qu G1 h1 => fun vs rv => ?_)⟩
  have hh := call_bind (W := W) (mg := X.mg) G1 rv h1
  have hl : xs.length = n := (sa.len _ _ _ hfe).trans hn
  rw [← hl]
  exact hh
/-- f(..) with frozen arguments alone: it leaves all as it is -/
def fCallQ (F : List O → Rs O) (fr : En → Rs (List Arg)) : En → Rs Vl := fLf (fCallO F fr)
theorem ve_call {x : Str} {p : Pos} {k : Nat} {fa : Addr} {fd : FuncData} {ps : List Str} {F : List O → Rs O} {n : Nat} (tk : Takes X W) (Fn : FnOk X.prog X.w X.K X.mg X.base (L2.CX X.prog X.w) k fa fd ps (spM X.K X.mg n F)) (hr : Room k X.A) (hg : Gl X x) (hm : X.mg x = some (.ref fa)) (hk : PySem.W.keepIn X.K (.ref fa) = true) (hb : Binds X.K fd ps [])
    (ha : VAC X W q m (e :: es) fr) (hn : (e :: es).length = n := by rfl) (hdb : (x == ("__debug__" : Str)) = false := by decide) (he : starEach (e :: es) X.env = (false, eval e X.env) :: starEach es X.env := by rfl) (hpl : (backTo pos (starEach es X.env)).any (·.1) = false := by rfl) :
    VE X W (q && m) (.Call (.Name x p) (e :: es) [] pos) (fCallQ F fr) := by
  obtain ⟨ta, pa, sa⟩ := ha.ex
  have vo := vo_call (pos := pos) (p := p) tk Fn hr hg hm hk hb ha hn hdb he hpl
  refine ⟨_, pe_callS (E := WE W) Fn hr hg hm hk hb (fun σ => passAt tk σ) pa hdb he hpl, ⟨fun hqm env x e z => ?_, fun B ω σ H env Q G z => ?_⟩⟩
  · obtain ⟨hq, hm⟩ := Bool.and_eq_true_iff.mp hqm
    unfold fCallQ fLf fCallO at z
    obtain ⟨a, e1, z1, z2⟩ := Rs.bind_st (env := env) z
    obtain ⟨xs, e2, z3, z4⟩ := Rs.bind_st (env := env) z1
    have r1 := sa.st hq _ _ _ z3
    have nm := sa.nomv hm _ _ _ z3
    have hput : ∀ {xs : List Arg} {ps : List (Option O)} {e e' : En}, (∀ x ∈ xs, ∃ w, x = .va w) → putA xs ps e = some e' → e' = e := by
      intro xs
      induction xs with
      | nil => intro ps e e' _ h; cases h; rfl
      | cons x xs ih =>
        intro ps e e' hx h
        obtain ⟨w, rfl⟩ := hx x List.mem_cons_self
        cases ps with
        | nil => simp [putA] at h
        | cons p ps => rw [putA] at h; exact ih (fun y hy => hx y (List.mem_cons_of_mem _ hy)) h
    have : e1 = e2 := by
      split at z4
      · split at z4
        · split at z4
          · split at z4
            · cases z4; exact hput nm (by assumption)
            · cases z4
          · split at z4 <;> cases z4
          · cases z4
        · cases z4
      · cases z4
    split at z2
    · cases z2; rw [this, r1]
    · cases z2
  · unfold fCallQ fLf fCallO at z
    have z : EPost X.K X.mg W (q && m) B ω σ H (PV X.K σ Q) (((fr env).bind fun xs e => (if (mvs xs).Nodup then match takeA e xs with
      | some os => match F os with
        | .ok r ps => (match putA xs ps e with
          | some e' => Rs.ok r e'
          | none => .bad)
        | .ex c ps => (match putA xs ps e with
          | some e' => .ex c e'
          | none => .bad)
        | .bad => .bad
      | none => .bad else .bad)).bind fun o e => match o with
        | .lf w => .ok (.lf w) e
        | _ => .bad) := z
    have z2 : EPost X.K X.mg W (q && m) B ω σ H (PV X.K σ Q) ((fr env).bind fun xs e => (if (mvs xs).Nodup then match takeA e xs with
      | some os => match F os with
        | .ok r ps => (match putA xs ps e with
          | some e' => Rs.ok r e'
          | none => .bad)
        | .ex c ps => (match putA xs ps e with
          | some e' => .ex c e'
          | none => .bad)
        | .bad => .bad
      | none => .bad else .bad).bind fun o e => match o with
        | .lf w => .ok (.lf w) e
        | _ => .bad) := by
      cases y : fr env with
      | bad => rw [y] at z; exact z
      | ex c e => rw [y] at z; exact z
      | ok xs e => rw [y] at z; exact z
    refine sa.run B ω σ H env _ G ((EPost.bind (q1 := q) (q2 := m) z2).imp fun xs e ω1 H1 hfe ev qu G1 h1 => fun vs rv => ?_)
    have hl : xs.length = n := (sa.len _ _ _ hfe).trans hn
    show spM X.K X.mg n F vs H1 Q (WE W σ)
    rw [← hl]
    split at h1
    · rename_i nd
      split at h1
      · rename_i os ht
        refine call_run G1 rv nd ht ?_
        cases y : F os with
        | bad => rw [y] at h1; exact h1
        | ok r pp =>
          rw [y] at h1
          dsimp only at h1 ⊢
          split at h1
          · rename_i e' hp
            refine ⟨e', hp, fun ω' H' v ev' qq G' r' => ?_⟩
            have hlen : e'.length ≤ B := by rw [← G'.len, G1.len]; exact G1.nB
            obtain ⟨ω2, d, dm, G2⟩ := G'.drop hlen
            cases r with
            | lf w =>
              cases r' with
              | lf r' =>
                refine h1 ω2 H' (ev'.trans d.evo) (fun hm => ?_) G2 v (RW.evo d.evo r')
                have hno : mvs xs = [] := mvs_nil (sa.nomv hm _ _ _ hfe)
                have q0 := qq hno
                refine ⟨fun a o e => ⟨(q0 a o e).1, ?_⟩, fun a h => ev'.back a (d.back a h)⟩
                have hω := (q0 a o e).2
                cases t : ω1 a with
                | fr => exact d.fr a (hω.trans t)
                | out => exact d.out a (hω.trans t)
                | mine p =>
                  obtain ⟨r0, z0, hz, hlt⟩ := G1.root a p t
                  subst hz
                  exact dm a r0 z0 (hω.trans t) hlt
            | _ => exact h1.elim
          · exact h1.elim
        | ex c pp =>
          rw [y] at h1
          dsimp only at h1 ⊢
          split at h1
          · rename_i e' hp
            exact ⟨e', hp, fun ω' H' C hC ev' G' => h1 ω' H' C hC ev' G'⟩
          · exact h1.elim
      · exact h1.elim
    · exact h1.elim
end
end MV
set_option Elab.async false
set_option linter.all false
set_option maxRecDepth 100000
set_option maxHeartbeats 4000000
namespace MV
open PySem PySem.Spec PyProof.Rows L2
abbrev W0 : WX := fun _ _ _ _ => False
/-! ### list comprehensions -/
def wipeE (e : En) : List Nat → En
  | [] => e
  | v :: vs => (wipeE e vs).set v none
def restE (e0 e : En) : List Nat → En
  | [] => e
  | v :: vs => (restE e0 e vs).set v (e0.getD v none)
def okOwn (e : En) (vs : List Nat) : Bool := vs.all fun i => match e[i]? with
  | some (some (.lf _)) => true
  | some none => true
  | _ => false
def noEx {α : Type} : Rs α → Rs α
  | .ex _ _ => .bad
  | r => r
def vLc (vs : List Nat) (g : PyData → En → Option En) (tt : En → Rs Bool) (fe : En → Rs Vl) : List PyData → List PyData → En → Rs (List PyData)
  | [], acc, e => .ok acc e
  | w :: ws, acc, e => match g w (wipeE e vs) with
    | none => .bad
    | some e1 => (noEx (tt e1)).bind fun b e2 => if b then (noEx (fe e2)).bind fun y e3 => (match y with
      | .lf w' => if acc.length < sizeLine then vLc vs g tt fe ws (acc ++ [w']) e3 else .bad
      | .pl _ _ => .bad) else vLc vs g tt fe ws acc e2
def fLc (fi : En → Rs (List PyData)) (vs : List Nat) (g : PyData → En → Option En) (tt : En → Rs Bool) (fe : En → Rs Vl) : En → Rs Vl := fun env => (fi env).bind fun ws e => if okOwn e vs then (vLc vs g tt fe ws [] e).bind fun acc e' => .ok (.lf (.list acc)) (restE e e' vs) else .bad
theorem wipeE_len (e : En) : ∀ vs : List Nat, (wipeE e vs).length = e.length
  | [] => rfl
  | v :: vs => by simp [wipeE, wipeE_len e vs]
theorem restE_len (e0 e : En) : ∀ vs : List Nat, (restE e0 e vs).length = e.length
  | [] => rfl
  | v :: vs => by simp [restE, restE_len e0 e vs]
theorem wipeE_get (e : En) (i : Nat) : ∀ vs : List Nat, (wipeE e vs)[i]? = if i ∈ vs ∧ i < e.length then some none else e[i]?
  | [] => by simp [wipeE]
  | v :: vs => by
    unfold wipeE
    by_cases h : i = v
    · subst h
      by_cases hl : i < e.length
      · rw [List.getElem?_set_self (by rw [wipeE_len]; exact hl)]; simp [hl]
      · simp [hl]
        rw [wipeE_len]; omega
    · rw [List.getElem?_set_ne (Ne.symm h), wipeE_get e i vs]
      simp [h]
theorem restE_get (e0 e : En) (i : Nat) : ∀ vs : List Nat, (restE e0 e vs)[i]? = if i ∈ vs ∧ i < e.length then some (e0.getD i none) else e[i]?
  | [] => by simp [restE]
  | v :: vs => by
    unfold restE
    by_cases h : i = v
    · subst h
      by_cases hl : i < e.length
      · rw [List.getElem?_set_self (by rw [restE_len]; exact hl)]; simp [hl]
      · simp [hl]
        rw [restE_len]; omega
    · rw [List.getElem?_set_ne (Ne.symm h), restE_get e0 e i vs]
      simp [h]
theorem wipe_get (σ : L2.St) (i : Nat) : ∀ vs : List Nat, (wipe σ vs)[i]? = if i ∈ vs ∧ i < σ.length then some none else σ[i]?
  | [] => by simp [wipe]
  | v :: vs => by
    unfold wipe
    by_cases h : i = v
    · subst h
      by_cases hl : i < σ.length
      · rw [List.getElem?_set_self (by rw [wipe_length]; exact hl)]; simp [hl]
      · simp [hl]
        rw [wipe_length]; omega
    · rw [List.getElem?_set_ne (Ne.symm h), wipe_get σ i vs]
      simp [h]
theorem noEx_st {α : Type} {r : Rs α} {a : α} {e : En} (h : noEx r = .ok a e) : r = .ok a e := by
  cases r with
  | bad => cases h
  | ok a e => exact h
  | ex c e => cases h
section
variable {X : Cx} {W : WX} {kp : Nat → Bool} {q q1 q2 q3 m : Bool} {e a b c tg iter elt : Expr} {es rest ifs : List Expr} {pos : Pos} {f fa fb fc fe : En → Rs Vl} {K : PySem.W.Frag} {mg : Str → Option Value}
theorem EPost.noEx {α : Type} {B : Nat} {ω : Om} {σ : L2.St} {H : Hp} {P : α → En → Om → Hp → Prop} {r : Rs α} (h : EPost K mg W q B ω σ H P (MV.noEx r)) : EPost K mg W0 q B ω σ H P r := by
  cases r with
  | bad => exact h
  | ok a e => exact h
  | ex c e => exact h.elim
/-- a list that is being made, known to nobody else -/
structure Mk1 (ω1 : Om) (H1 : Hp) (D : Addr) (ω : Om) (H : Hp) : Prop where
  own : ω D = .out
  ev : Evo ω1 H1 (fun a => if a = D then .fr else ω a) H
theorem Mk1.step {ω1 ω ω' : Om} {H1 H H' : Hp} {D : Addr} {xs : List V} (hD : H1 D = none) (hx : H D = some (.lst xs)) (h : Mk1 ω1 H1 D ω H) (ev : Evo ω H ω' H') : Mk1 ω1 H1 D ω' H' ∧ H' D = some (.lst xs) := by
  obtain ⟨e1, e2⟩ := ev.out D _ hx h.own
  refine ⟨⟨e1, fun a o e z => ?_, fun a o e z => ?_, fun a z => ?_, fun a o u e => ev.frz a o u (h.ev.frz a o u e)⟩, e2⟩
  · have hne : a ≠ D := fun y => by rw [y, hD] at e; cases e
    obtain ⟨k1, k2⟩ := h.ev.fr a o e z
    simp only [if_neg hne] at k1 ⊢
    exact ev.fr a o k2 k1
  · have hne : a ≠ D := fun y => by rw [y, hD] at e; cases e
    obtain ⟨k1, k2⟩ := h.ev.out a o e z
    simp only [if_neg hne] at k1 ⊢
    exact ev.out a o k2 k1
  · by_cases hne : a = D
    · subst hne; simp at z
    · simp only [if_neg hne] at z
      exact h.ev.back a (by simp only [if_neg hne]; exact ev.back a z)
theorem Mk1.quiet {ω1 ω ω' : Om} {H1 H H' : Hp} {D : Addr} (hD : H1 D = none) (h : Quiet ω1 H1 (fun a => if a = D then .fr else ω a) H) (ev : Quiet ω H ω' H') : Quiet ω1 H1 (fun a => if a = D then .fr else ω' a) H' := by
  refine ⟨fun a o e => ?_, fun a z => ?_⟩
  · have hne : a ≠ D := fun y => by rw [y, hD] at e; cases e
    obtain ⟨k1, k2⟩ := h.same a o e
    simp only [if_neg hne] at k2 ⊢
    obtain ⟨k3, k4⟩ := ev.same a o k1
    exact ⟨k3, k4.trans k2⟩
  · by_cases hne : a = D
    · subst hne; simp at z
    · simp only [if_neg hne] at z
      exact h.back a (by simp only [if_neg hne]; exact ev.back a z)
theorem RW.updOut {ω : Om} {H : Hp} {D : Addr} {u : HO} {v : V} {w : PyData} (ho : ω D = .out) (h : RW K ω H v w) : RW K ω (upd H D u) v w := h.tr fun a x e z => by
  have hne : a ≠ D := fun y => by rw [y, ho] at z; cases z
  exact ⟨z, by rw [upd_ne hne]; exact e⟩
theorem Good.updOut {B : Nat} {ω : Om} {σ : L2.St} {H : Hp} {env : En} {D : Addr} {u : HO} (ho : ω D = .out) (G : Good K B ω σ H env) (hu : Nw (some u) → False := by exact id) : Good K B ω σ (upd H D u) env := by
  refine ⟨fun i o e => ?_, G.root, fun a z => ?_, G.nB, G.len⟩
  · obtain ⟨v, h1, h2⟩ := G.rel i o e
    refine ⟨v, h1, h2.tr [i] (fun a x q z y => ?_) fun a x y z => ?_⟩
    · have hne : a ≠ D := fun t => by rw [t, ho] at z; cases z
      exact ⟨z, by rw [upd_ne hne]; exact y⟩
    · have hne : a ≠ D := fun t => by rw [t, ho] at z; cases z
      exact ⟨z, by rw [upd_ne hne]; exact y⟩
  · by_cases hne : a = D
    · subst hne; rw [upd_same] at z; exact (hu z).elim
    · rw [upd_ne hne] at z; exact G.wf a z
theorem Good.wipe {B : Nat} {ω : Om} {σ : L2.St} {H : Hp} {env : En} (vs : List Nat) (G : Good K B ω σ H env) : Good K B ω (wipe σ vs) H (wipeE env vs) := by
  refine ⟨fun i o e => ?_, G.root, G.wf, by rw [wipeE_len]; exact G.nB, by rw [wipeE_len, wipe_length]; exact G.len⟩
  rw [wipeE_get] at e
  split at e
  · cases e
  · rename_i hn
    obtain ⟨v, h1, h2⟩ := G.rel i o e
    refine ⟨v, ?_, h2⟩
    rw [wipe_get, if_neg (by rw [G.len]; exact hn)]
    exact h1
theorem wipe_keep {σ σ' : L2.St} {vs : List Nat} (hl : σ'.length = σ.length) (h : Keep (fun j => decide (j ∉ vs)) σ σ') : wipe σ' vs = wipe σ vs := by
  apply List.ext_getElem?
  intro i
  rw [wipe_get, wipe_get, hl]
  by_cases hi : i ∈ vs
  · by_cases hlt : i < σ.length
    · simp [hi, hlt]
    · simp only [hlt, and_false, if_false]
      rw [List.getElem?_eq_none (by omega), List.getElem?_eq_none (by omega)]
  · simp only [hi, false_and, if_false]
    exact h i (by simpa using hi)
theorem Mk1.put {ω1 ω : Om} {H1 H : Hp} {D : Addr} {u : HO} (hD : H1 D = none) (h : Mk1 ω1 H1 D ω H) : Mk1 ω1 H1 D ω (upd H D u) := ⟨h.own, ⟨fun a o e z => by
    obtain ⟨k1, k2⟩ := h.ev.fr a o e z
    exact ⟨k1, by rw [upd_ne (ne_of_none e hD)]; exact k2⟩, fun a o e z => by
    obtain ⟨k1, k2⟩ := h.ev.out a o e z
    exact ⟨k1, by rw [upd_ne (ne_of_none e hD)]; exact k2⟩, h.ev.back, fun a o u e => by rw [upd_ne (ne_of_none e hD)]; exact h.ev.frz a o u e⟩⟩
theorem Quiet.put {ω1 ω : Om} {H1 H : Hp} {D : Addr} {u : HO} (hD : H1 D = none) (h : Quiet ω1 H1 ω H) : Quiet ω1 H1 ω (upd H D u) := ⟨fun a o e => by
    obtain ⟨k1, k2⟩ := h.same a o e
    exact ⟨by rw [upd_ne (ne_of_none e hD)]; exact k1, k2⟩, h.back⟩
/-! ### one reading for all contexts -/
def tOf (K : PySem.W.Frag) (mg : Str → Option Value) (W : WX) (q : Bool) (f : En → Rs Vl) : TE := fun σ H Q => ∃ B ω env, Good K B ω σ H env ∧ EPost K mg W q B ω σ H (PV K σ Q) (f env)
theorem VE.canon (h : VE X W q e f) : PE X e (tOf X.K X.mg W q f) := by
  obtain ⟨t, p, s⟩ := h.ex
  exact ⟨fun pins sh σ H Q I ⟨B, ω, env, G, z⟩ => p.run pins sh σ H Q I (s.run B ω σ H env Q G z)⟩
structure VTs (X : Cx) (W : WX) (q : Bool) (es : List Expr) (f : En → Rs Bool) : Prop where
  ex : ∃ tt, PTs X es tt ∧ ST X.K X.mg W q tt f
def fYes : En → Rs Bool := fun env => .ok true env
theorem vts_nil : VTs X W true [] fYes := ⟨_, pts_nil, ⟨fun _ env x e h => by cases h; rfl, fun B ω σ H env Q G h => EPost.ok_here G h⟩⟩
theorem vts_one {g : En → Rs Bool} (h : VT X W q a g) : VTs X W q [a] g := let ⟨_, p, s⟩ := h.ex; ⟨_, pts_one p, s⟩
def tOfT (K : PySem.W.Frag) (mg : Str → Option Value) (W : WX) (q : Bool) (f : En → Rs Bool) : TT := fun σ H Q => ∃ B ω env, Good K B ω σ H env ∧ EPost K mg W q B ω σ H (fun b _ _ H' => Q b H') (f env)
theorem VTs.canon {g : En → Rs Bool} (h : VTs X W q es g) : PTs X es (tOfT X.K X.mg W q g) := by
  obtain ⟨t, p, s⟩ := h.ex
  exact ⟨fun pins sh σ H Q I ⟨B, ω, env, G, z⟩ => p.run pins sh σ H Q I (s.run B ω σ H env Q G z)⟩
def gOf (K : PySem.W.Frag) (kp : Nat → Bool) (f : PyData → En → Option En) : TG := fun v σ H Q => ∃ B ω env w, Good K B ω σ H env ∧ RW K ω H v w ∧ (match f w env with
    | some e => ∀ σ', Keep kp σ σ' → σ'.length = σ.length → Good K B ω σ' H e → Q σ' H
    | none => False)
theorem VG.canon {g : PyData → En → Option En} (h : VG X kp tg g) : PG X tg (gOf X.K kp g) := by
  obtain ⟨t, p, s⟩ := h.ex
  exact ⟨fun pins sh σ H v u Q I r ⟨B, ω, env, w, G, rw_, z⟩ => p.run pins sh σ H v u Q I r (s.run B ω σ H env v w Q G rw_ z)⟩
/-- a quiet comprehension leaves the names as they are -/
theorem vLc_st {vs : List Nat} {g : PyData → En → Option En} {tt : En → Rs Bool} (hg : ∀ w env e, g w env = some e → e.length = env.length ∧ ∀ (j : Nat), (decide (j ∉ vs)) = true → e[j]? = env[j]?) (ht : ∀ env x e, tt env = .ok x e → e = env) (he : ∀ env x e, fe env = .ok x e → e = env) :
    ∀ {ws acc : List PyData} {env e : En} {r : List PyData}, vLc vs g tt fe ws acc env = .ok r e → e.length = env.length ∧ ∀ (j : Nat), j ∉ vs → e[j]? = env[j]?
  | [], acc, env, e, r, h => by cases h; exact ⟨rfl, fun _ _ => rfl⟩
  | w :: ws, acc, env, e, r, h => by
    unfold vLc at h
    cases zg : g w (wipeE env vs) with
    | none => rw [zg] at h; cases h
    | some e1 =>
      rw [zg] at h
      obtain ⟨l1, k1⟩ := hg _ _ _ zg
      obtain ⟨b, e2, z1, z2⟩ := Rs.bind_st (env := env) h
      have r2 := ht _ _ _ (noEx_st z1)
      have base : e1.length = env.length ∧ ∀ (j : Nat), j ∉ vs → e1[j]? = env[j]? := ⟨by rw [l1, wipeE_len], fun j hj => by rw [k1 j (by simpa using hj), wipeE_get, if_neg (fun t => hj t.1)]⟩
      split at z2
      · obtain ⟨y, e3, z3, z4⟩ := Rs.bind_st (env := env) z2
        have r3 := he _ _ _ (noEx_st z3)
        split at z4
        · split at z4
          · obtain ⟨l, k⟩ := vLc_st hg ht he z4
            rw [r3, r2] at l k
            exact ⟨l.trans base.1, fun j hj => (k j hj).trans (base.2 j hj)⟩
          · cases z4
        · cases z4
      · obtain ⟨l, k⟩ := vLc_st hg ht he z2
        rw [r2] at l k
        exact ⟨l.trans base.1, fun j hj => (k j hj).trans (base.2 j hj)⟩
theorem lc_se {scope : Scope} {own : List (Str × Nat)} {fi : En → Rs (List PyData)} {g : PyData → En → Option En} {tt : En → Rs Bool} (hc : X.calm = true) (hN : X.N.Nodup) (hi : VI X W q1 tg iter fi) (ok : BlkOk X.N X.env.scope scope own)
    (hg : ∀ (s : Shared) (H : Hp) (C : Addr) (cl : List (Str × Addr)) (fp : List Addr), VG (X.blk s H scope (compEnvC scope cl C X.env) fp) (fun j => decide (j ∉ own.map (·.2))) tg g)
    (ht : ∀ (s : Shared) (H : Hp) (C : Addr) (cl : List (Str × Addr)) (fp : List Addr), VTs (X.blk s H scope (compEnvC scope cl C X.env) fp) W0 q2 ifs tt)
    (he : ∀ (s : Shared) (H : Hp) (C : Addr) (cl : List (Str × Addr)) (fp : List Addr), VE (X.blk s H scope (compEnvC scope cl C X.env) fp) W0 q3 elt fe) :
    ∃ wi, PI X tg iter wi ∧ SE X.K X.mg W (q1 && (q2 && q3)) (tLc wi (gOf X.K (fun j => decide (j ∉ own.map (·.2))) g) (tOfT X.K X.mg W0 q2 tt) (tOf X.K X.mg W0 q3 fe) (own.map (·.2))) (fLc fi (own.map (·.2)) g tt fe) := by
  obtain ⟨wi, pi, si⟩ := hi.ex
  refine ⟨wi, pi, ⟨fun hq env x e z => ?_, fun B ω σ H env Q G z => ?_⟩⟩
  · obtain ⟨h1, h23⟩ := Bool.and_eq_true_iff.mp hq
    obtain ⟨h2, h3⟩ := Bool.and_eq_true_iff.mp h23
    unfold fLc at z
    obtain ⟨ws, e1, z1, z2⟩ := Rs.bind_st (env := env) z
    have r1 := si.st h1 _ _ _ z1
    subst r1
    split at z2
    · rename_i hok
      obtain ⟨acc, e2, z3, z4⟩ := Rs.bind_st (env := e1) z2
      cases z4
      obtain ⟨_, _, sg⟩ := (hg X.s_0 X.H_0 0 [] []).ex
      obtain ⟨_, _, st⟩ := (ht X.s_0 X.H_0 0 [] []).ex
      obtain ⟨_, _, se⟩ := (he X.s_0 X.H_0 0 [] []).ex
      obtain ⟨l, k⟩ := vLc_st sg.st (st.st h2) (se.st h3) z3
      apply List.ext_getElem?
      intro i
      rw [restE_get]
      by_cases hi : i ∈ own.map (·.2)
      · by_cases hlt : i < e1.length
        · rw [if_pos ⟨hi, by rw [l]; exact hlt⟩]
          simp [hlt]
        · rw [if_neg (fun t => hlt (by rw [← l]; exact t.2)), List.getElem?_eq_none (by omega), List.getElem?_eq_none (by omega)]
      · rw [if_neg (fun t => hi t.1)]
        exact k i hi
    · cases z2
  · refine si.run B ω σ H env _ G ((EPost.bind (q1 := q1) (q2 := q2 && q3) z).imp fun ws e ω1 H1 _ ev1 qu1 G1 h1 => fun J hJ D hD => ?_)
    split at h1
    · rename_i hok
      refine ⟨fun i m H' => ∃ ω' env' acc accV, Mk1 ω1 H1 D ω' H' ∧ ((q2 && q3) = true → Quiet ω1 H1 (fun a => if a = D then .fr else ω' a) H') ∧ Good X.K B ω' (wipe σ (own.map (·.2))) H' (wipeE env' (own.map (·.2))) ∧ H' D = some (.lst accV) ∧ RWs X.K ω' H' accV acc ∧
        m = ws.length - i ∧ i ≤ ws.length ∧ env'.length = e.length ∧ EPost X.K X.mg W (q2 && q3) B ω1 σ H1 (PV X.K σ Q) ((vLc (own.map (·.2)) g tt fe (ws.drop i) acc env').bind fun acc e' => .ok (.lf (.list acc)) (restE e e' (own.map (·.2)))),
        ⟨ws.length, fun a => if a = D then .out else ω1 a, e, [], [], ⟨by simp, ?_⟩, fun _ => ?_, ?_, upd_same, RWs.nil, by simp, Nat.zero_le _, rfl, by simpa using h1⟩, ?_⟩
      · refine ⟨fun a o e z => ?_, fun a o e z => ?_, fun a z => ?_, fun a o u e => by rw [upd_ne (ne_of_none e hD)]; exact e⟩
        · have hne := ne_of_none e hD
          exact ⟨by simp [hne, z], by rw [upd_ne hne]; exact e⟩
        · have hne := ne_of_none e hD
          exact ⟨by simp [hne, z], by rw [upd_ne hne]; exact e⟩
        · by_cases hne : a = D
          · subst hne; simp at z
          · simpa [hne] using z
      · refine ⟨fun a o e => ?_, fun a z => ?_⟩
        · have hne := ne_of_none e hD
          exact ⟨by rw [upd_ne hne]; exact e, by simp [hne]⟩
        · by_cases hne : a = D
          · subst hne; simp at z
          · simpa [hne] using z
      · have G2 : Good X.K B (fun a => if a = D then .out else ω1 a) σ (upd H1 D (.lst [])) e := by
          refine ⟨fun i o h => ?_, fun a p h => ?_, fun a h => ?_, G1.nB, G1.len⟩
          · obtain ⟨v, k1, k2⟩ := G1.rel i o h
            refine ⟨v, k1, k2.tr [i] (fun a x q z y => ?_) fun a x y z => ?_⟩
            · have hne := ne_of_none y hD
              exact ⟨by simp [hne, z], by rw [upd_ne hne]; exact y⟩
            · have hne := ne_of_none y hD
              exact ⟨by simp [hne, z], by rw [upd_ne hne]; exact y⟩
          · by_cases hne : a = D
            · subst hne; simp at h
            · exact G1.root a p (by simpa [hne] using h)
          · by_cases hne : a = D
            · subst hne; rw [upd_same] at h; exact h.elim
            · rw [upd_ne hne] at h; simp [hne, G1.wf a h]
        exact G2.wipe _
      · rintro i m H' ⟨ω', env', acc, accV, mk, qk, G', hDx, racc, rfl, hi, hlen, sp⟩
        have evF : EvoF ω1 H1 ω' H' := fun a o e z => by
          obtain ⟨k1, k2⟩ := mk.ev.fr a o e z
          have hne := ne_of_none e hD
          simp only [if_neg hne] at k1
          exact ⟨k1, k2⟩
        obtain ⟨j1, j2⟩ := hJ i ω' H' evF G'.wf
        by_cases hlt : i < ws.length
        · right
          obtain ⟨hgo, hy⟩ := j2 ws[i] (by simp [hlt])
          refine ⟨hgo, fun H2 => ∃ ω' env' acc accV, Mk1 ω1 H1 D ω' H2 ∧ ((q2 && q3) = true → Quiet ω1 H1 (fun a => if a = D then .fr else ω' a) H2) ∧ Good X.K B ω' (wipe σ (own.map (·.2))) H2 (wipeE env' (own.map (·.2))) ∧ H2 D = some (.lst accV) ∧ RWs X.K ω' H2 accV acc ∧
            env'.length = e.length ∧ EPost X.K X.mg W (q2 && q3) B ω1 σ H1 (PV X.K σ Q) ((vLc (own.map (·.2)) g tt fe (ws.drop (i + 1)) acc env').bind fun acc e' => .ok (.lf (.list acc)) (restE e e' (own.map (·.2)))),
            fun H2 ⟨ω2, e2, a2, aV2, b1, b2, b3, b4, b5, b6, b7⟩ => ⟨ws.length - (i + 1), by omega, ω2, e2, a2, aV2, b1, b2, b3, b4, b5, rfl, hlt, b6, b7⟩, fun x H2 hx => ?_⟩
          obtain ⟨hH, rw_⟩ := hy x H2 hx
          have qu2 : Quiet ω' H' ω' H2 := by
            rcases hH with rfl | ⟨p, u, hp, rfl⟩
            · exact .refl _ _
            · exact .alloc hp
          have G2 : Good X.K B ω' (wipe σ (own.map (·.2))) H2 (wipeE env' (own.map (·.2))) := by
            rcases hH with rfl | ⟨p, u, hp, rfl⟩
            · exact G'
            · exact G'.alloc hp
          obtain ⟨mk2, hD2⟩ := mk.step hD hDx qu2.evo
          have qk2 : (q2 && q3) = true → Quiet ω1 H1 (fun a => if a = D then .fr else ω' a) H2 := fun t => Mk1.quiet hD (qk t) qu2
          have racc2 := racc.evo qu2.evo
          rw [List.drop_eq_getElem_cons hlt] at sp
          unfold vLc at sp
          cases zg : g ws[i] (wipeE env' (own.map (·.2))) with
          | none => rw [zg] at sp; exact sp.elim
          | some e1 =>
            rw [zg] at sp
            refine ⟨B, ω', wipeE env' (own.map (·.2)), ws[i], G2, rw_, ?_⟩
            rw [zg]
            intro σ3 k3 l3 G3
            have hw3 : wipe σ3 (own.map (·.2)) = wipe σ (own.map (·.2)) := by
              rw [wipe_keep l3 k3]
              apply List.ext_getElem?
              intro t
              rw [wipe_get, wipe_get, wipe_length]
              split
              · rfl
              · rfl
            have le1 : e1.length = e.length := by
              rw [← G3.len, l3, wipe_length, G1.len]
            refine ⟨hw3, ?_⟩
            dsimp only at sp
            -- the tests
            refine ⟨B, ω', e1, G3, ?_⟩
            cases zt : tt e1 with
            | bad => rw [zt] at sp; exact sp.elim
            | ex c e2 => rw [zt] at sp; exact sp.elim
            | ok b e2 =>
              rw [zt] at sp
              intro ω4 H4 ev4 qu4 G4
              obtain ⟨mk4, hD4⟩ := mk2.step hD hD2 ev4
              have racc4 := racc2.evo ev4
              have qk4 : (q2 && q3) = true → Quiet ω1 H1 (fun a => if a = D then .fr else ω4 a) H4 := fun t => Mk1.quiet hD (qk2 t) (qu4 (Bool.and_eq_true_iff.mp t).1)
              have le2 : e2.length = e.length := by rw [← G4.len, G3.len, le1]
              cases b with
              | false =>
                rw [if_neg Bool.false_ne_true]
                have G5 := G4.wipe (own.map (·.2))
                rw [hw3] at G5
                exact ⟨ω4, e2, acc, accV, mk4, qk4, G5, hD4, racc4, le2, sp⟩
              | true =>
                rw [if_pos rfl]
                refine ⟨B, ω4, e2, G4, ?_⟩
                have sp : EPost X.K X.mg W (q2 && q3) B ω1 σ H1 (PV X.K σ Q) (((noEx (fe e2)).bind fun y e3 => (match y with
                  | .lf w' => if acc.length < sizeLine then vLc (own.map (·.2)) g tt fe (ws.drop (i + 1)) (acc ++ [w']) e3 else .bad
                  | .pl _ _ => .bad)).bind fun acc e' => .ok (.lf (.list acc)) (restE e e' (own.map (·.2)))) := sp
                cases zf : fe e2 with
                | bad => rw [zf] at sp; exact sp.elim
                | ex c e3 => rw [zf] at sp; exact sp.elim
                | ok y e3 =>
                  rw [zf] at sp
                  intro ω5 H5 ev5 qu5 G5 v rv
                  cases y with
                  | pl o up => exact sp.elim
                  | lf w' =>
                    dsimp only [noEx, Rs.bind_ok] at sp
                    split at sp
                    · rename_i hsz
                      obtain ⟨mk5, hD5⟩ := mk4.step hD hD4 ev5
                      have racc5 := racc4.evo ev5
                      refine ⟨accV, hD5, by rw [racc5.1]; exact hsz, ω5, e3, acc ++ [w'], accV ++ [v], mk5.put hD, fun t => (Mk1.quiet hD (qk4 t) (qu5 (Bool.and_eq_true_iff.mp t).2)).put hD, ?_, upd_same, ?_, by rw [← G5.len, G4.len, le2], sp⟩
                      · have G6 := (G5.updOut (u := .lst (accV ++ [v])) mk5.own).wipe (own.map (·.2))
                        rw [hw3] at G6
                        exact G6
                      · exact RWs.append ⟨racc5.1, fun i v w y1 y2 => (racc5.2 i v w y1 y2).updOut mk5.own⟩ (RWs.cons (RW.updOut mk5.own rv) RWs.nil)
                    · exact sp.elim
        · left
          have : i = ws.length := by omega
          subst this
          refine ⟨j1 (Nat.le_refl _), ?_⟩
          simp only [List.drop_length, vLc] at sp
          refine sp (fun a => if a = D then .fr else ω' a) H' mk.ev qk ?_ _ ?_
          · refine ⟨fun i o h => ?_, fun a p h => ?_, fun a h => ?_, by rw [restE_len, hlen]; exact G1.nB, by rw [restE_len, hlen]; exact G1.len⟩
            · have toF : ∀ {p v o}, RO X.K ω' H' p v o → RO X.K (fun a => if a = D then .fr else ω' a) H' p v o := fun {p v o} r => r.tr p (fun a x q z y => by
                have hne : a ≠ D := fun t => by rw [t, mk.own] at z; cases z
                exact ⟨by simp [hne, z], y⟩) fun a x y z => by
                have hne : a ≠ D := fun t => by rw [t, mk.own] at z; cases z
                exact ⟨by simp [hne, z], y⟩
              rw [restE_get] at h
              split at h
              · rename_i hin
                have h : e.getD i none = some o := Option.some.inj h
                have hle : i < e.length := by rw [← hlen]; exact hin.2
                have h' : e[i]? = some (some o) := by
                  rw [List.getElem?_eq_getElem hle]
                  simpa [List.getD, hle] using h
                unfold okOwn at hok
                have := List.all_eq_true.mp hok i hin.1
                rw [h'] at this
                obtain ⟨v, k1, k2⟩ := G1.rel i o h'
                refine ⟨v, k1, ?_⟩
                cases o with
                | lf w =>
                  cases k2 with
                  | lf r => exact .lf (RW.evo mk.ev r)
                | _ => cases this
              · rename_i hin
                have hw : (wipeE env' (own.map (·.2)))[i]? = some (some o) := by rw [wipeE_get, if_neg hin]; exact h
                obtain ⟨v, k1, k2⟩ := G'.rel i o hw
                refine ⟨v, ?_, toF k2⟩
                rw [wipe_get] at k1
                split at k1
                · cases k1
                · exact k1
            · by_cases hne : a = D
              · subst hne; simp at h
              · exact G'.root a p (by simpa [hne] using h)
            · by_cases hne : a = D
              · subst hne; rw [hDx] at h; exact h.elim
              · simp [hne, G'.wf a h]
          · refine RW.lst (.inl ⟨.inl hDx, by simp⟩) racc.1 fun i v w y1 y2 => (racc.2 i v w y1 y2).tr fun a x y z => ?_
            have hne : a ≠ D := fun t => by rw [t, mk.own] at z; cases z
            exact ⟨by simp [hne, z], y⟩
    · exact h1.elim
theorem ve_lc {scope : Scope} {own : List (Str × Nat)} {fi : En → Rs (List PyData)} {g : PyData → En → Option En} {tt : En → Rs Bool} (hc : X.calm = true) (hN : X.N.Nodup) (hi : VI X W q1 tg iter fi) (ok : BlkOk X.N X.env.scope scope own)
    (hg : ∀ (s : Shared) (H : Hp) (C : Addr) (cl : List (Str × Addr)) (fp : List Addr), VG (X.blk s H scope (compEnvC scope cl C X.env) fp) (fun j => decide (j ∉ own.map (·.2))) tg g)
    (ht : ∀ (s : Shared) (H : Hp) (C : Addr) (cl : List (Str × Addr)) (fp : List Addr), VTs (X.blk s H scope (compEnvC scope cl C X.env) fp) W0 q2 ifs tt)
    (he : ∀ (s : Shared) (H : Hp) (C : Addr) (cl : List (Str × Addr)) (fp : List Addr), VE (X.blk s H scope (compEnvC scope cl C X.env) fp) W0 q3 elt fe) (hs : ∀ x, foldedSetIterable iter X.env x = pure x := by intro _; rfl) :
    VE X W (q1 && (q2 && q3)) (.ListComp elt [⟨tg, iter, ifs, 0⟩] scope pos) (fLc fi (own.map (·.2)) g tt fe) := by
  obtain ⟨wi, pi, se⟩ := lc_se (W := W) hc hN hi ok hg ht he
  exact ⟨_, pe_lc (g := gOf X.K (fun j => decide (j ∉ own.map (·.2))) g) (tt := tOfT X.K X.mg W0 q2 tt) (te := tOf X.K X.mg W0 q3 fe) hc hN pi ok (fun s H C cl fp => (hg s H C cl fp).canon) (fun s H C cl fp => (ht s H C cl fp).canon) (fun s H C cl fp => (he s H C cl fp).canon) hs, se⟩
theorem vs_setLc {i : Nat} {y : Str} {py spos : Pos} {scope : Scope} {own : List (Str × Nat)} {fi : En → Rs (List PyData)} {g : PyData → En → Option En} {tt : En → Rs Bool} (hc : X.calm = true) (hN : X.N.Nodup) (hi : VI X W q1 tg iter fi) (ok : BlkOk X.N X.env.scope scope own)
    (hg : ∀ (s : Shared) (H : Hp) (C : Addr) (cl : List (Str × Addr)) (fp : List Addr), VG (X.blk s H scope (compEnvC scope cl C X.env) fp) (fun j => decide (j ∉ own.map (·.2))) tg g)
    (ht : ∀ (s : Shared) (H : Hp) (C : Addr) (cl : List (Str × Addr)) (fp : List Addr), VTs (X.blk s H scope (compEnvC scope cl C X.env) fp) W0 q2 ifs tt)
    (he : ∀ (s : Shared) (H : Hp) (C : Addr) (cl : List (Str × Addr)) (fp : List Addr), VE (X.blk s H scope (compEnvC scope cl C X.env) fp) W0 q3 elt fe) (hy : X.N[i]? = some y) (hyl : X.env.scope.names.lookup y = some .local) (hk : kp i = false := by rfl)
    (hsw : swapsWith (.ListComp elt [⟨tg, iter, ifs, 0⟩] scope pos) (some (.Name y py)) spos.line X.env = pure true) (hs : ∀ x, foldedSetIterable iter X.env x = pure x := by intro _; rfl) :
    VS X W kp (.Assign [.Name y py] (.ListComp elt [⟨tg, iter, ifs, 0⟩] scope pos) spos) (fSet i (fLc fi (own.map (·.2)) g tt fe)) := by
  obtain ⟨wi, pi, se⟩ := lc_se (W := W) hc hN hi ok hg ht he
  refine ⟨_, ps_setLc (g := gOf X.K (fun j => decide (j ∉ own.map fun x : Str × Nat => x.2)) g) (tt := tOfT X.K X.mg W0 q2 tt) (te := tOf X.K X.mg W0 q3 fe) hc hN hy hyl hsw pi ok (fun s H C cl fp => (hg s H C cl fp).canon) (fun s H C cl fp => (ht s H C cl fp).canon) (fun s H C cl fp => (he s H C cl fp).canon) hs, fun B ω σ H env D G z => se.run B ω σ H env _ G ((SPost.bindE z).imp fun x e ω1 H1 _ ev qu G1 h1 => fun v rv => ?_)⟩
  cases x with
  | lf w => exact h1 ω1 _ H1 (.refl _ _) (.set hk) (G1.setLf rv)
  | pl o up => exact h1.elim
end
end MV
set_option Elab.async false
set_option linter.all false
set_option maxRecDepth 100000
set_option maxHeartbeats 4000000
namespace MV
open PySem PySem.Spec PyProof.Rows L2
section
variable {X : Cx} {W : WX} {kp : Nat → Bool} {q q1 q2 q3 m : Bool} {e a b c tg iter elt o i : Expr} {es rest ifs : List Expr} {pos tpos : Pos} {f fa fb fc fe fo fi : En → Rs Vl} {K : PySem.W.Frag} {mg : Str → Option Value}

/-! ### a thing at its place is changed -/
def NotFrz : HO → Prop
  | .frz _ _ => False
  | _ => True
/-- the object at a, the place p, becomes u; o' lies there then -/
theorem Lens.put {B : Nat} {ω : Om} {σ : L2.St} {H : Hp} {env : En} {p : List Nat} {a : Addr} {x : HO} {u : HO} {up : O → En} {o' : O} (G : Good K B ω σ H env) (L : Lens K ω σ H p (.ref a) up) (hl : (up o').length = σ.length) (hω : ω a = .mine p) (hH : H a = some x)
    (r : RO K ω (upd H a u) p (.ref a) o') (hu : Nw (some u) → False := by exact id) (hx : NotFrz x := by exact trivial) : Evo ω H ω (upd H a u) ∧ Good K B ω σ (upd H a u) (up o') := by
  refine ⟨⟨fun b y e z => ?_, fun b y e z => ?_, fun _ z => z, fun b o u e => by rw [upd_ne (fun t => by rw [t, hH] at e; cases e; exact hx)]; exact e⟩, L B ω _ o' (fun b y q z n e => ?_) (fun b y e z => ?_) r G.root (fun b z => ?_) (fun r q e => ?_) (by rw [hl, G.len]; exact G.nB)⟩
  · have hne : b ≠ a := fun t => by rw [t, hω] at z; cases z
    exact ⟨z, by rw [upd_ne hne]; exact e⟩
  · have hne : b ≠ a := fun t => by rw [t, hω] at z; cases z
    exact ⟨z, by rw [upd_ne hne]; exact e⟩
  · have hne : b ≠ a := fun t => by
      rw [t, hω] at z; cases z
      exact n (List.prefix_refl _)
    exact ⟨z, by rw [upd_ne hne]; exact e⟩
  · have hne : b ≠ a := fun t => by rw [t, hω] at z; cases z
    exact ⟨z, by rw [upd_ne hne]; exact e⟩
  · by_cases hne : b = a
    · subst hne; rw [upd_same] at z; exact (hu z).elim
    · rw [upd_ne hne] at z; exact G.wf b z
  · obtain ⟨r', q', h1, h2⟩ := G.root a p hω
    rw [e] at h1; cases h1; exact h2
/-- children of a node stay where another object stood at the node -/
theorem RO.kid {ω : Om} {H : Hp} {p : List Nat} {a : Addr} {u : HO} {j : Nat} {v : V} {o : O} (hω : ω a = .mine p) (h : RO K ω H (p ++ [j]) v o) : RO K ω (upd H a u) (p ++ [j]) v o :=
  h.tr _ (fun b x q z e => by
    have hne : b ≠ a := fun t => by
      rw [t, hω] at z
      have := congrArg (fun w => match w with | Ow.mine l => l.length | _ => 0) z
      simp at this
    exact ⟨z, by rw [upd_ne hne]; exact e⟩) fun b x e z => by
    have hne : b ≠ a := fun t => by rw [t, hω] at z; cases z
    exact ⟨z, by rw [upd_ne hne]; exact e⟩
theorem RW.beside {ω : Om} {H : Hp} {p : List Nat} {a : Addr} {u : HO} {v : V} {w : PyData} (hω : ω a = .mine p) (h : RW K ω H v w) : RW K ω (upd H a u) v w := h.tr fun b x e z => by
  have hne : b ≠ a := fun t => by rw [t, hω] at z; cases z
  exact ⟨z, by rw [upd_ne hne]; exact e⟩
/-- .. a list at its place gets other items: some old children, some frozen things -/
theorem lst_put {B : Nat} {ω : Om} {σ : L2.St} {H : Hp} {env : En} {v : V} {os os' : List O} {up : O → En} (G : Good K B ω σ H env) (r : RV K ω σ H v (.pl (.lst os) up)) : ∃ a vs, v = .ref a ∧ H a = some (.lst vs) ∧ vs.length = os.length ∧
    ∀ vs', vs'.length = os'.length → (∀ (j : Nat) v o, vs'[j]? = some v → os'[j]? = some o → (vs[j]? = some v ∧ os[j]? = some o) ∨ ∃ w, o = .lf w ∧ (RW K ω H v w ∨ ∃ k : Nat, vs[k]? = some v ∧ os[k]? = some o)) → Evo ω H ω (upd H a (.lst vs')) ∧ Good K B ω σ (upd H a (.lst vs')) (up (.lst os')) := by
  obtain ⟨p, ro, L, hp, hup⟩ := r
  cases ro with
  | @lst _ a vs _ e1 e2 l g =>
    refine ⟨a, vs, rfl, e2, l, fun vs' hl hk => Lens.put G L (hup _) e1 e2 (.lst e1 upd_same hl fun j v o h1 h2 => ?_)⟩
    rcases hk j v o h1 h2 with ⟨h3, h4⟩ | ⟨w, rfl, h3 | ⟨k, h3, h4⟩⟩
    · exact (g j v o h3 h4).kid e1
    · exact .lf (h3.beside e1)
    · have := g k v _ h3 h4
      cases this with
      | lf r => exact .lf (r.beside e1)

/-! ### o[i] = e, lists -/
def fPut (fe fo fi : En → Rs Vl) : En → Rs Fl := fun env => (fe env).bind fun x e => (fo e).bind fun o e1 => (fi e1).bind fun i e2 => match o, i, x with
  | .pl (.lst os) up, .lf (.int k), .lf w => match ixN os.length k with
    | some j => .ok .nx (up (.lst (os.set j (.lf w))))
    | none => .bad
  | _, _, _ => .bad
theorem vs_put (he : VE X W q e fe) (ho : VE X W true o fo) (hi : VE X W true i fi) (hs : swapsWithSole [.Subscript o i tpos] e pos.line X.env = pure false := by rfl) (hw : swappedStores [.Subscript o i tpos] e X.env = pure none := by rfl)
    (h1 : (assignEach [.Subscript o i tpos] X.env).map (·.2) = [assign (.Subscript o i tpos) X.env] := by rfl)
    (ha : ∀ v, assign (.Subscript o i tpos) X.env v = (do
      let ov ← holding [v] (eval o X.env)
      let iv ← holding [v, ov] (eval i X.env)
      standAt tpos
      holding [v, ov, iv] (setItem ov iv v)
      release [v, ov, iv] []) := by intro _; rfl) : VS X W kp (.Assign [.Subscript o i tpos] e pos) (fPut fe fo fi) := by
  obtain ⟨te, pe, se⟩ := he.ex
  obtain ⟨to, po, so⟩ := ho.ex
  obtain ⟨ti, pi, si⟩ := hi.ex
  refine ⟨_, ps_asg pe (pg_sub po pi set_list ha) hs hw h1, fun B ω σ H env D G z => se.run B ω σ H env _ G ((SPost.bindE z).imp fun x e ω1 H1 _ ev qu G1 h1 => fun v rv => ?_)⟩
  refine so.run B ω1 σ H1 e _ G1 ((SPost.bindE (q := true) h1).imp fun o' e1 ω2 H2 ho' ev2 qu2 G2 h2 => fun ov ro => ?_)
  have heq := so.st rfl _ _ _ ho'
  subst heq
  refine si.run B ω2 σ H2 e1 _ G2 ((SPost.bindE (q := true) h2).imp fun i' e2 ω3 H3 hi' ev3 qu3 G3 h3 => fun iv ri => ?_)
  have heq := si.st rfl _ _ _ hi'
  subst heq
  split at h3
  · rename_i os up k w hfe
    split at h3
    · rename_i j hj
      cases (show RW X.K ω3 H3 iv (.int k) from ri)
      have rv3 : RW X.K ω3 H3 v w := RW.evo (ev2.trans ev3) rv
      obtain ⟨a, vs, rfl, hH, hl, hput⟩ := lst_put (os' := os.set j (.lf w)) G3 (ro.quiet (qu3 rfl))
      obtain ⟨ev4, G4⟩ := hput (vs.set j v) (by simp [hl]) fun n v' o' y1 y2 => by
        by_cases hn : n = j
        · subst hn
          have hlt : n < vs.length := by
            have := (List.getElem?_eq_some_iff.mp y1).1
            simpa using this
          rw [List.getElem?_set_self hlt] at y1
          rw [List.getElem?_set_self (by rw [← hl]; exact hlt)] at y2
          cases y1; cases y2
          exact .inr ⟨w, rfl, .inl rv3⟩
        · rw [List.getElem?_set_ne (Ne.symm hn)] at y1 y2
          exact .inl ⟨y1, y2⟩
      exact ⟨a, vs, k, j, rfl, rfl, hH, by rw [hl]; exact hj, h3 ω3 σ _ ev4 (.refl _ _) G4⟩
    · exact h3.elim
  · exact h3.elim

/-! ### append, extend, reverse -/
def fApp (i : Nat) (fe : En → Rs Vl) : En → Rs Fl := fun env => match env[i]? with
  | some (some (.lst _)) => (fe env).bind fun x e => (match x, e[i]? with
    | .lf w, some (some (.lst os)) => if os.length < sizeLine then .ok .nx (e.set i (some (.lst (os ++ [.lf w])))) else .bad
    | _, _ => .bad)
  | _ => .bad
theorem app_lst {B : Nat} {ω : Om} {σ : L2.St} {H : Hp} {env : En} {v u : V} {os : List O} {w : PyData} {up : O → En} (G : Good K B ω σ H env) (r : RV K ω σ H v (.pl (.lst os) up)) (ru : RW K ω H u w) : ∃ a vs, v = .ref a ∧ H a = some (.lst vs) ∧ vs.length = os.length ∧
    Evo ω H ω (upd H a (.lst (vs ++ [u]))) ∧ Good K B ω σ (upd H a (.lst (vs ++ [u]))) (up (.lst (os ++ [.lf w]))) := by
  obtain ⟨a, vs, rfl, hH, hl, hput⟩ := lst_put (os' := os ++ [.lf w]) G r
  refine ⟨a, vs, rfl, hH, hl, hput (vs ++ [u]) (by simp [hl]) fun j v' o' y1 y2 => ?_⟩
  by_cases hj : j < vs.length
  · rw [List.getElem?_append_left hj] at y1
    rw [List.getElem?_append_left (by rw [← hl]; exact hj)] at y2
    exact .inl ⟨y1, y2⟩
  · rw [List.getElem?_append_right (by omega)] at y1 y2
    have h0 : j - vs.length = 0 := by
      have := (List.getElem?_eq_some_iff.mp y1).1
      simp at this; omega
    rw [h0] at y1
    rw [← hl, h0] at y2
    simp at y1 y2
    subst y1; subst y2
    exact .inr ⟨w, rfl, .inl ru⟩
theorem ty_list {ω : Om} {σ : L2.St} {H : Hp} {v : V} {os : List O} {up : O → En} (r : RV K ω σ H v (.pl (.lst os) up)) : tyV K "list" v H := by
  obtain ⟨p, ro, _⟩ := r
  cases ro with
  | lst e1 e2 l g => exact Or.inl ⟨rfl, _, .inl (.inl e2)⟩
theorem slot_rv {B : Nat} {ω : Om} {σ : L2.St} {H : Hp} {env : En} {i : Nat} {o : O} (G : Good K B ω σ H env) (h : env[i]? = some (some o)) : ∃ v, σ[i]? = some (some v) ∧ RV K ω σ H v (.pl o fun o' => env.set i (some o')) := by
  obtain ⟨v, e1, e2⟩ := G.rel i o h
  exact ⟨v, e1, [i], e2, lens_slot G e1, ⟨i, [], rfl⟩, fun o' => by rw [List.length_set]; exact G.len.symm⟩
theorem vs_app {i : Nat} {x : Str} {p1 apos cpos : Pos} (he : VE X W q e fe) (hN : X.N[i]? = some x := by rfl) (hv : Vis X.env.scope x := by first | exact Or.inl rfl | exact Or.inr (Or.inl rfl) | exact Or.inr (Or.inr rfl)) (hd : (x == ("__debug__" : Str)) = false := by decide)
    (hcd : (x == ("__classdict__" : Str)) = false := by decide) (hse : starEach [e] X.env = (false, eval e X.env) :: starEach [] X.env := by rfl)
    (hs : swapsWith (.Call (.Attribute (.Name x p1) "append" apos) [e] [] cpos) none pos.line X.env = pure false := by rfl)
    (hpe : ∀ (to : TE) (t : TA), PE X (.Name x p1) to → PA X [e] t → PE X (.Call (.Attribute (.Name x p1) "append" apos) [e] [] cpos) (tBM X.K "list" rAppend to t) := by intro _ _ h1 h2; exact pe_bm PySem.F.plainAttrs_list PySem.F.slot_list_append PySem.F.type_list_append mt_append h1 h2) :
    VS X W kp (.Expr (.Call (.Attribute (.Name x p1) "append" apos) [e] [] cpos) pos) (fApp i fe) := by
  obtain ⟨te, pe, se⟩ := he.ex
  refine ⟨_, ps_expr (hpe _ _ (pe_var hN hv hd hcd) (pa_cons pe pa_nil hse)) hs, fun B ω σ H env D G z => ?_⟩
  unfold fApp at z
  split at z
  · rename_i os0 h0
    obtain ⟨v, e1, rv0⟩ := slot_rv G h0
    refine ⟨v, e1, ty_list rv0, se.run B ω σ H env _ G ((SPost.bindE z).imp fun y e' ω1 H1 _ ev qu G1 h1 => fun u ru => ?_)⟩
    split at h1
    · rename_i w os hi hfe
      split at h1
      · rename_i hsz
        obtain ⟨v', e1', rv1⟩ := slot_rv G1 hi
        rw [e1] at e1'; cases e1'
        obtain ⟨a, vs, rfl, hH, hl, ev2, G2⟩ := app_lst G1 rv1 (show RW X.K ω1 H1 u w from ru)
        exact ⟨a, vs, u, rfl, rfl, hH, by rw [hl]; exact hsz, h1 ω1 σ _ ev2 (.refl _ _) G2⟩
      · exact h1.elim
    · exact h1.elim
  · exact z.elim
/-- list.extend, the other list any that may be read -/
def rExtendL (K : PySem.W.Frag) : V → List V → Hp → VK → Prop := fun x vs H Q => ∃ l b xs zs, x = .ref l ∧ vs = [.ref b] ∧ H l = some (.lst xs) ∧ SqL K H b zs ∧ xs.length + zs.length ≤ sizeLine ∧ Q .non (upd H l (.lst (xs ++ zs)))
theorem list_extendW (l : Addr) (items : Array Value) (n : Nat) (b : Addr) (items2 : Array Value) (n2 : Nat) (dd2 : Option Addr) (sl2 : Array (Option Value)) (hc0 : ¬(!items.isEmpty && Builtin.List.listTooLong (items.size + items2.size)) = true) (hc1 : items.size ≤ sizeLine) (hs2 : items.size + items2.size ≤ sizeLine + 1) :
    Meets (Builtin.«list.extend» ⟨[.ref l, .ref b], []⟩) (fun _ R s => s.heap.get? l = some { cls := .type "list", dict := none, data := .seq items n, slots := #[] } ∧ s.heap.get? b = some { cls := .type "list", dict := dd2, data := .seq items2 n2, slots := sl2 } ∧ R (.ok (.ret Value.none)) { s with heap := s.heap.update l (Obj.mapSeq fun x => x ++ items2), toks := s.toks }) :=
  .of_wp fun prog w A R s h => by
    obtain ⟨hp, g, d, tk, os⟩ := s; obtain ⟨hl, hb, h⟩ := h; have f1 := AutoSeq1.idx_int; have f2 := AutoSeq1.sub_tuple_tuple; have f3 := AutoSeq1.sub_list_list; have f4 := AutoSeq1.sub_tuple_list; have f5 := AutoSeq1.sub_list_tuple;
    have hz' : (items ++ items2).size ≤ sizeLine + 1 := by rw [Array.size_append]; exact hs2
    wp_walk using (wpAny_updateSeq hl rfl (hz := hc1) (_hz' := hz')), wpAny_loadPart' hl, wpAny_loadPart' hb; exact ⟨_, rfl, h⟩
theorem mt_extendL : MtM X "list.extend" (rExtendL X.K) := by
  intro pins s σ H x vs v us Q I rx rv h
  obtain ⟨l, b, xs, zs, rfl, rfl, hH, hB, hz, q⟩ := h
  cases rx
  obtain ⟨u, rfl, ru⟩ := rv.one
  cases ru
  obtain ⟨z, its, n, r, hl, e⟩ := I.lstM hH
  obtain ⟨its2, r2, ⟨⟨cls2, dd2, data2, sl2⟩, n2, ho2, hc2, _, hd2⟩, _⟩ := I.list hB
  simp only at hc2 hd2
  subst hc2 hd2
  have hl2 := r2.length
  have hsz : its.toArray.size + its2.toArray.size ≤ sizeLine := by rw [List.size_toArray, List.size_toArray]; omega
  have hlong : ¬ (!its.toArray.isEmpty && Builtin.List.listTooLong (its.toArray.size + its2.toArray.size)) = true := by
    rw [notLongL hsz, Bool.and_false]
    exact Bool.false_ne_true
  refine call_meets F.slot_list_extend ⟨_, e, rfl⟩ F.entry_list_extend (F.args_list_extend_2 _ _)
    (list_extendW l its.toArray n b its2.toArray n2 dd2 sl2 hlong (by rw [List.size_toArray]; omega) (by omega)) ⟨e, ho2, ?_⟩
  refine ⟨.non, _, I.lset (its' := its ++ its2) hH e (by simp) (r.append r2) ?_, rfl, q⟩
  rw [List.length_append]
  omega
def fExt (i : Nat) (fe : En → Rs Vl) : En → Rs Fl := fun env => match env[i]? with
  | some (some (.lst _)) => (fe env).bind fun x e => (match x.items, e[i]? with
    | some ws, some (some (.lst os)) => if os.length + ws.length ≤ sizeLine then .ok .nx (e.set i (some (.lst (os ++ ws.map .lf)))) else .bad
    | _, _ => .bad)
  | _ => .bad
theorem vs_ext {i : Nat} {x : Str} {p1 apos cpos : Pos} (he : VE X W q e fe) (hN : X.N[i]? = some x := by rfl) (hv : Vis X.env.scope x := by first | exact Or.inl rfl | exact Or.inr (Or.inl rfl) | exact Or.inr (Or.inr rfl)) (hd : (x == ("__debug__" : Str)) = false := by decide)
    (hcd : (x == ("__classdict__" : Str)) = false := by decide) (hse : starEach [e] X.env = (false, eval e X.env) :: starEach [] X.env := by rfl)
    (hs : swapsWith (.Call (.Attribute (.Name x p1) "extend" apos) [e] [] cpos) none pos.line X.env = pure false := by rfl)
    (hpe : ∀ (to : TE) (t : TA), PE X (.Name x p1) to → PA X [e] t → PE X (.Call (.Attribute (.Name x p1) "extend" apos) [e] [] cpos) (tBM X.K "list" (rExtendL X.K) to t) := by intro _ _ h1 h2; exact pe_bm PySem.F.plainAttrs_list PySem.F.slot_list_extend PySem.F.type_list_extend mt_extendL h1 h2) :
    VS X W kp (.Expr (.Call (.Attribute (.Name x p1) "extend" apos) [e] [] cpos) pos) (fExt i fe) := by
  obtain ⟨te, pe, se⟩ := he.ex
  refine ⟨_, ps_expr (hpe _ _ (pe_var hN hv hd hcd) (pa_cons pe pa_nil hse)) hs, fun B ω σ H env D G z => ?_⟩
  unfold fExt at z
  split at z
  · rename_i os0 h0
    obtain ⟨v, e1, rv0⟩ := slot_rv G h0
    refine ⟨v, e1, ty_list rv0, se.run B ω σ H env _ G ((SPost.bindE z).imp fun y e' ω1 H1 _ ev qu G1 h1 => fun u ru => ?_)⟩
    split at h1
    · rename_i ws os hws hi
      split at h1
      · rename_i hsz
        obtain ⟨v', e1', rv1⟩ := slot_rv G1 hi
        rw [e1] at e1'; cases e1'
        obtain ⟨b, us, rfl, sq, rr⟩ := ru.items hws
        obtain ⟨a, vs, rfl, hH, hl, hput⟩ := lst_put (os' := os ++ ws.map .lf) G1 rv1
        obtain ⟨ev2, G2⟩ := hput (vs ++ us) (by simp [hl, rr.1]) fun j v' o' y1 y2 => by
          by_cases hj : j < vs.length
          · rw [List.getElem?_append_left hj] at y1
            rw [List.getElem?_append_left (by rw [← hl]; exact hj)] at y2
            exact .inl ⟨y1, y2⟩
          · rw [List.getElem?_append_right (by omega)] at y1 y2
            rw [List.getElem?_map, ← hl] at y2
            cases t : ws[j - vs.length]? with
            | none => rw [t] at y2; cases y2
            | some w =>
              rw [t] at y2; cases y2
              exact .inr ⟨w, rfl, .inl (rr.2 _ v' w y1 t)⟩
        exact ⟨a, b, vs, us, rfl, rfl, hH, sq, by rw [hl, rr.1]; exact hsz, h1 ω1 σ _ ev2 (.refl _ _) G2⟩
      · exact h1.elim
    · exact h1.elim
  · exact z.elim
def fRev (i : Nat) : En → Rs Fl := fun env => match env[i]? with
  | some (some (.lst os)) => match lfs os with
    | some ws => .ok .nx (env.set i (some (.lst (ws.reverse.map .lf))))
    | none => .bad
  | _ => .bad
theorem vs_rev {i : Nat} {x : Str} {p1 apos cpos : Pos} (hN : X.N[i]? = some x := by rfl) (hv : Vis X.env.scope x := by first | exact Or.inl rfl | exact Or.inr (Or.inl rfl) | exact Or.inr (Or.inr rfl)) (hd : (x == ("__debug__" : Str)) = false := by decide)
    (hcd : (x == ("__classdict__" : Str)) = false := by decide) (hline : (apos.endLine == cpos.line) = true := by rfl)
    (hs : swapsWith (.Call (.Attribute (.Name x p1) "reverse" apos) [] [] cpos) none pos.line X.env = pure false := by rfl)
    (hb : attributeBase (.Name x p1) "reverse" X.env (eval (.Name x p1) X.env) = eval (.Name x p1) X.env := by rfl) :
    VS X W kp (.Expr (.Call (.Attribute (.Name x p1) "reverse" apos) [] [] cpos) pos) (fRev i) := by
  refine ⟨_, ps_expr (pe_bm0 PySem.F.plainAttrs_list PySem.F.slot_list_reverse PySem.F.type_list_reverse mt_reverse (pe_var hN hv hd hcd) hb hline) hs, fun B ω σ H env D G z => ?_⟩
  unfold fRev at z
  split at z
  · rename_i os h0
    split at z
    · rename_i ws hws
      obtain ⟨v, e1, rv0⟩ := slot_rv G h0
      have hos := lfs_get hws
      obtain ⟨a, vs, rfl, hH, hl, hput⟩ := lst_put (os' := ws.reverse.map .lf) G rv0
      subst hos
      obtain ⟨ev2, G2⟩ := hput vs.reverse (by simp at hl ⊢; exact hl) fun j v' o' y1 y2 => by
        have hlt : j < vs.length := by
          have := (List.getElem?_eq_some_iff.mp y1).1
          simpa using this
        have hlw : vs.length = ws.length := by simpa using hl
        rw [List.getElem?_map] at y2
        rw [List.getElem?_reverse hlt] at y1
        rw [List.getElem?_reverse (by rw [← hlw]; exact hlt)] at y2
        cases t : ws[ws.length - 1 - j]? with
        | none => rw [t] at y2; cases y2
        | some w =>
          rw [t] at y2; cases y2
          refine .inr ⟨w, rfl, .inr ⟨vs.length - 1 - j, y1, ?_⟩⟩
          rw [List.getElem?_map, hlw, t]; rfl
      exact ⟨_, e1, ty_list rv0, a, vs, rfl, rfl, hH, z ω σ _ ev2 (.refl _ _) G2⟩
    · exact z.elim
  · exact z.elim

/-! ### things of one's own, made -/
def fOLst (fs : En → Rs (List Vl)) : En → Rs O := fun env => (fs env).bind fun xs e => match vlfs xs with
  | some ws => if ws.length ≤ sizeLine then .ok (.lst (ws.map .lf)) e else .bad
  | none => .bad
theorem new_own {B : Nat} {ω : Om} {σ : L2.St} {H : Hp} {env : En} {D : Addr} {u : HO} (G : Good K B ω σ H env) (hD : H D = none) (hu : Nw (some u) → False := by exact id) : Evo ω H (fun a => if a = D then .mine [B] else ω a) (upd H D u) ∧ Good K (B + 1) (fun a => if a = D then .mine [B] else ω a) σ (upd H D u) env ∧
    ∀ v w, RW K ω H v w → RW K (fun a => if a = D then .mine [B] else ω a) (upd H D u) v w := by
  have tr : ∀ a x, H a = some x → (if a = D then Ow.mine [B] else ω a) = ω a ∧ upd H D u a = some x := fun a x e => by
    have hne := ne_of_none e hD
    exact ⟨if_neg hne, by rw [upd_ne hne]; exact e⟩
  have hF : EvoF ω H (fun a => if a = D then .mine [B] else ω a) (upd H D u) := fun a x e z => ⟨(tr a x e).1.trans z, (tr a x e).2⟩
  refine ⟨⟨hF, fun a x e z => ⟨(tr a x e).1.trans z, (tr a x e).2⟩, fun a z => ?_, fun a o u e => (tr a _ e).2⟩, ⟨fun i o e => ?_, fun a p z => ?_, fun a z => ?_, Nat.le_succ_of_le G.nB, G.len⟩, fun v w r => r.evoF hF⟩
  · by_cases hne : a = D
    · subst hne; simp at z
    · simpa [hne] using z
  · obtain ⟨v, h1, h2⟩ := G.rel i o e
    exact ⟨v, h1, h2.tr [i] (fun a x q z y => ⟨(tr a x y).1.trans z, (tr a x y).2⟩) hF⟩
  · by_cases hne : a = D
    · subst hne
      simp at z
      exact ⟨B, [], z.symm, Nat.lt_succ_self _⟩
    · obtain ⟨r, q, h1, h2⟩ := G.root a p (by simpa [hne] using z)
      exact ⟨r, q, h1, Nat.lt_succ_of_lt h2⟩
  · by_cases hne : a = D
    · subst hne; rw [upd_same] at z; exact (hu z).elim
    · rw [upd_ne hne] at z; simp [hne, G.wf a z]
theorem vo_lst {fs : En → Rs (List Vl)} (h : VA X W q es fs) : VO X W (.List es pos) (fOLst fs) := by
  obtain ⟨t, p, s⟩ := h.ex
  refine ⟨_, pe_lst p, fun B ω σ H env Q G z => s.run B ω σ H env _ G ((OPost.bindA z).imp fun xs e ω1 H1 _ ev qu G1 h1 => fun vs rv => ?_)⟩
  split at h1
  · rename_i ws hw
    split at h1
    · rename_i hl
      have rr := vlfs_rws hw rv
      refine ⟨by rw [rr.1]; exact hl, fun D hD => ?_⟩
      obtain ⟨k1, k2, k3⟩ := new_own (u := .lst vs) G1 hD
      refine h1 _ _ _ k1 k2 (.lst (by simp) upd_same (by simp [rr.1]) fun i v o y1 y2 => ?_)
      rw [List.getElem?_map] at y2
      cases t : ws[i]? with
      | none => rw [t] at y2; cases y2
      | some w => rw [t] at y2; cases y2; exact .lf (k3 _ _ (rr.2 i v w y1 t))
    · exact h1.elim
  · exact h1.elim
/-- name = a thing of one's own -/
def fSetO (i : Nat) (fo : En → Rs O) : En → Rs Fl := fun env => (fo env).bind fun o e => .ok .nx (e.set i (some o))
theorem SPost.bindO {B : Nat} {ω : Om} {σ : L2.St} {H : Hp} {D : Ends} {r : Rs O} {k : O → En → Rs Fl} {Q : VK} (h : SPost K mg W kp B ω σ H D (r.bind k)) (hk : ∀ o e, r = .ok o e → ∀ ω' H' v, Evo ω H ω' H' → Good K (B + 1) ω' σ H' e → RO K ω' H' [B] v o → SPost K mg W kp B ω σ H D (k o e) → Q v H') : OPost K mg W B ω σ H Q r := by
  cases r with
  | bad => exact h
  | ok o e => exact fun ω' H' v ev G r => hk o e rfl ω' H' v ev G r h
  | ex c e => exact fun ω' H' C hC ev G => h ω' σ H' C hC ev (.refl _ _) G
theorem vs_setO {i : Nat} {x : Str} {pos' : Pos} (hN : X.N.Nodup) (hi : X.N[i]? = some x) (hx : Loc X.env.scope x) (h : VO X W e fo') (hk : kp i = false := by rfl) (hs : swapsWith e (some (.Name x pos')) pos.line X.env = pure false := by rfl)
    (hf : X.fn x = true ∨ X.env.scope.names.lookup x = some .local := by first | exact .inl rfl | exact .inr rfl | assumption) : VS X W kp (.Assign [.Name x pos'] e pos) (fSetO i fo') := by
  obtain ⟨t, p, s⟩ := h.ex
  refine ⟨_, ps_set hN hi hx p hs hf, fun B ω σ H env D G z => s B ω σ H env _ G (SPost.bindO z fun o e _ ω1 H1 v ev G1 r h1 => ?_)⟩
  have hlen : e.length ≤ B := by rw [← G1.len, G.len]; exact G.nB
  -- the thing's root becomes the name's
  by_cases hil : i < e.length
  · refine h1 (fun a => match ω1 a with
      | .fr => .fr
      | .out => .out
      | .mine [] => .fr
      | .mine (r :: q) => if r = B then .mine (i :: q) else .mine (r :: q)) _ H1 ⟨fun a o y z => ?_, fun a o y z => ?_, fun a z => ?_, ev.frz⟩ (.set hk) ⟨fun j o' y => ?_, fun a p z => ?_, fun a z => ?_, by rw [List.length_set]; exact hlen, by rw [List.length_set, List.length_set]; exact G1.len⟩
    · obtain ⟨k1, k2⟩ := ev.fr a o y z
      exact ⟨by simp only [k1], k2⟩
    · obtain ⟨k1, k2⟩ := ev.out a o y z
      exact ⟨by simp only [k1], k2⟩
    · split at z
      · cases z
      · rename_i k; exact ev.back a k
      · cases z
      · split at z <;> cases z
    · by_cases hj : j = i
      · subst hj
        rw [List.getElem?_set_self hil] at y
        cases y
        refine ⟨v, List.getElem?_set_self (by rw [G1.len]; exact hil), r.tr [j] (fun a x q z y => ⟨?_, y⟩) fun a x y z => ⟨by simp only [z], y⟩⟩
        rw [show ω1 a = .mine (B :: q) from z]
        simp only [if_true]
        rfl
      · rw [List.getElem?_set_ne (Ne.symm hj)] at y
        obtain ⟨u, k1, k2⟩ := G1.rel j o' y
        refine ⟨u, by rw [List.getElem?_set_ne (Ne.symm hj)]; exact k1, k2.tr [j] (fun a x q z y => ⟨?_, y⟩) fun a x y z => ⟨by simp only [z], y⟩⟩
        have hjB : j ≠ B := by
          have := (List.getElem?_eq_some_iff.mp (by assumption : e[j]? = some (some o'))).1
          omega
        rw [show ω1 a = .mine (j :: q) from z]
        simp only [if_neg hjB]
        rfl
    · split at z
      · cases z
      · cases z
      · cases z
      · rename_i r' q' k
        obtain ⟨r2, q2, k1, k2⟩ := G1.root a _ k
        cases k1
        split at z
        · cases z; exact ⟨i, _, rfl, Nat.lt_of_lt_of_le hil hlen⟩
        · cases z; exact ⟨_, _, rfl, by omega⟩
    · simp only [G1.wf a z]
  · -- no such name
    obtain ⟨ω2, d, dm, G2⟩ := G1.drop hlen
    refine h1 ω2 _ H1 (ev.trans d.evo) (.set hk) ?_
    have e1 : e.set i (some o) = e := List.set_eq_of_length_le (by omega)
    have e2 : σ.set i (some v) = σ := List.set_eq_of_length_le (by rw [G1.len]; omega)
    rw [e1, e2]
    exact G2
end
end MV
set_option Elab.async false
set_option linter.all false
set_option maxRecDepth 100000
set_option maxHeartbeats 4000000
namespace MV
open PySem PySem.Spec PyProof.Rows L2
section
variable {X : Cx} {W : WX} {kp : Nat → Bool} {q q1 q2 q3 m : Bool} {e a b c tg iter elt o i : Expr} {es rest ifs : List Expr} {pos tpos : Pos} {f fa fb fc fe fo fi : En → Rs Vl} {K : PySem.W.Frag} {mg : Str → Option Value}
/-! ### a thing of one's own is frozen -/
theorem RO.frz {ω ω' : Om} {H : Hp} {p : List Nat} {v : V} {o : O} (h : RO K ω H p v o) : ∀ w, o.er = some w → (∀ a z, ω a = .mine (p ++ z) → ω' a = .fr) → (∀ a, ω a = .fr → ω' a = .fr) → RW K ω' H v w := by
  induction h with
  | lf r => intro w e hm hf; rw [O.er] at e; cases e; exact r.tr fun a x e z => ⟨hf a z, e⟩
  | @lst p a vs os e1 e2 l _ ih =>
    intro w e hm hf
    rw [O.er] at e
    cases q : O.ers os with
    | none => rw [q] at e; cases e
    | some ws =>
      rw [q] at e; cases e
      obtain ⟨l', g⟩ := ers_get q
      refine .lst (.inl ⟨.inl e2, hm a [] (by simpa using e1)⟩) (l.trans l') fun i v w z1 z2 => ?_
      have hi : i < os.length := by
        have := (List.getElem?_eq_some_iff.mp z1).1; omega
      exact ih i v os[i] z1 (List.getElem?_eq_getElem hi) w (g i _ w (List.getElem?_eq_getElem hi) z2) (fun b z hb => hm b ([i] ++ z) (by simpa using hb)) hf
  | @tup p a vs os f l _ ih =>
    intro w e hm hf
    rw [O.er] at e
    cases q : O.ers os with
    | none => rw [q] at e; cases e
    | some ws =>
      rw [q] at e; cases e
      obtain ⟨l', g⟩ := ers_get q
      refine .tup ⟨f.1, hf a f.2⟩ (l.trans l') fun i v w z1 z2 => ?_
      have hi : i < os.length := by
        have := (List.getElem?_eq_some_iff.mp z1).1; omega
      exact ih i v os[i] z1 (List.getElem?_eq_getElem hi) w (g i _ w (List.getElem?_eq_getElem hi) z2) (fun b z hb => hm b ([i] ++ z) (by simpa using hb)) hf
  | dct => intro w e; rw [O.er] at e; cases e
  | dcT => intro w e; rw [O.er] at e; cases e
  | dcL => intro w e; rw [O.er] at e; cases e
  | ins => intro w e; rw [O.er] at e; cases e
def fFrz (i : Nat) : En → Rs Vl := fun env => match env[i]? with
  | some (some o) => match o.er with
    | some w => .ok (.lf w) (env.set i (some (.lf w)))
    | none => .bad
  | _ => .bad
theorem ve_frz {i : Nat} {x : Str} (hN : X.N[i]? = some x := by rfl) (hv : Vis X.env.scope x := by first | exact Or.inl rfl | exact Or.inr (Or.inl rfl) | exact Or.inr (Or.inr rfl)) (hd : (x == ("__debug__" : Str)) = false := by decide)
    (hcd : (x == ("__classdict__" : Str)) = false := by decide) : VE X W false (.Name x pos) (fFrz i) := by
  refine ⟨_, pe_var hN hv hd hcd, ⟨fun hq => (nomatch hq), fun B ω σ H env Q G h => ?_⟩⟩
  unfold fFrz at h
  split at h
  · rename_i o e
    split at h
    · rename_i w hw
      obtain ⟨v, e1, e2⟩ := G.rel i _ e
      refine ⟨v, e1, ?_⟩
      have hil : i < env.length := (List.getElem?_eq_some_iff.mp e).1
      have hr : RW X.K (fun a => match ω a with | .mine (r :: q) => if r = i then .fr else .mine (r :: q) | x => x) H v w := e2.frz w hw (fun a z y => by
        simp only [show ω a = .mine (i :: z) from y, if_true]) fun a y => by simp only [y]
      refine h (fun a => match ω a with | .mine (r :: q) => if r = i then .fr else .mine (r :: q) | x => x) H ⟨fun a y e z => ⟨by simp only [z], e⟩, fun a y e z => ⟨by simp only [z], e⟩, fun a z => ?_, fun _ _ _ e => e⟩ (fun hq => nomatch hq) ⟨fun j o' y => ?_, fun a p z => ?_, fun a z => ?_, by rw [List.length_set]; exact G.nB, by rw [List.length_set]; exact G.len⟩ v hr
      · split at z
        · split at z <;> cases z
        · exact z
      · by_cases hj : j = i
        · subst hj
          rw [List.getElem?_set_self hil] at y
          cases y
          exact ⟨v, e1, .lf hr⟩
        · rw [List.getElem?_set_ne (Ne.symm hj)] at y
          obtain ⟨u, k1, k2⟩ := G.rel j o' y
          refine ⟨u, k1, k2.tr [j] (fun a x q z y => ⟨?_, y⟩) fun a x y z => ⟨by simp only [z], y⟩⟩
          simp only [show ω a = .mine (j :: q) from z, if_neg hj]
          rfl
      · split at z
        · split at z
          · cases z
          · cases z; rename_i r' q' k _; exact G.root a _ k
        · exact G.root a p z
      · simp only [G.wf a z]
    · exact h.elim
  · exact h.elim

/-! ### isinstance -/
inductive Ty | none | bool | int | str | list | tuple
  deriving DecidableEq
def Ty.name : Ty → String
  | .none => "NoneType" | .bool => "bool" | .int => "int" | .str => "str" | .list => "list" | .tuple => "tuple"
def Ty.sub (a b : Ty) : Bool := decide (a = b) || (decide (a = .bool) && decide (b = .int))
theorem kit_sub (a b : Ty) : b ≠ .none → kitB a.name b.name = some (a.sub b) := by
  cases a <;> cases b <;> intro h <;> first | exact absurd rfl h | decide +kernel
def Vl.ty : Vl → Option Ty
  | .lf .none => some .none
  | .lf (.bool _) => some .bool
  | .lf (.int _) => some .int
  | .lf (.str _) => some .str
  | .lf (.list _) => some .list
  | .lf (.tuple _) => some .tuple
  | .pl (.lst _) _ => some .list
  | _ => none
theorem RV.tyx {ω : Om} {σ : L2.St} {H : Hp} {v : V} {x : Vl} {t : Ty} (h : RV K ω σ H v x) (e : x.ty = some t) : TyX K H v (.type t.name) := by
  cases x with
  | lf w =>
    have h : RW K ω H v w := h
    cases h with
    | non => cases e; exact .base .non
    | bl b => cases e; exact .base (.bl b)
    | int i => cases e; exact .base (.int i)
    | str x => cases e; exact .base (.str x)
    | lst f l g =>
      cases e
      rcases f with ⟨f | ⟨o, f⟩, _⟩ | ⟨o, its, n, hk, hc, _⟩
      · exact .base (.lst f)
      · exact .base (.frz f)
      · exact .kList hk hc
    | tup f l g =>
      cases e
      exact .base (.tup f.1)
  | pl o up =>
    obtain ⟨p, r, _⟩ := h
    cases o with
    | lst os =>
      cases e
      cases r with
      | lst e1 e2 l g => exact .base (.lst e2)
    | _ => cases e
def fIsi (T : Ty) (fa : En → Rs Vl) : En → Rs Vl := fun env => (fa env).bind fun x e => match x.ty with
  | some t => .ok (.lf (.bool (t.sub T))) e
  | none => .bad
theorem ve_isi {T : Ty} {p p2 : Pos} {x : Str} (hT : T ≠ .none) (hx : bootBuiltins x = some (.type T.name)) (hg : Gl X "isinstance") (hm : X.mg "isinstance" = none) (hg2 : Gl X x) (hm2 : X.mg x = none) (h : VE X W q a fa) (hn : x ≠ "__name__" := by decide) (hd : (x == ("__debug__" : Str)) = false := by decide)
    (he : starEach [a, .Name x p2] X.env = (false, eval a X.env) :: starEach [.Name x p2] X.env := by rfl) (he2 : starEach [.Name x p2] X.env = (false, eval (.Name x p2) X.env) :: starEach [] X.env := by rfl) (hpl : (backTo pos (starEach [.Name x p2] X.env)).any (·.1) = false := by rfl) :
    VE X W q (.Call (.Name "isinstance" p) [a, .Name x p2] [] pos) (fIsi T fa) := by
  obtain ⟨t, pa, s⟩ := h.ex
  have pT : PE X (.Name x p2) (tC (.ty T.name)) := pe_bltn hg2 hm2 hx rfl hn hd
  refine ⟨_, pe_callB (r := rIsi X.K) call_isi hg hm (by decide +kernel) (pa_cons pa (pa_cons pT pa_nil he2) he) (by decide) (by decide) he hpl, ⟨fun hq env x e z => ?_, fun B ω σ H env Q G z => ?_⟩⟩
  · obtain ⟨a, e1, z1, z2⟩ := Rs.bind_st (env := env) z
    split at z2 <;> cases z2
    exact s.st hq _ _ _ z1
  · refine s.run B ω σ H env _ G ((EPost.bind (q1 := q) (q2 := true) (by rw [Bool.and_true]; exact z)).imp fun x e ω1 H1 _ ev1 qu1 G1 h1 => fun v rv => ?_)
    split at h1
    · rename_i t ht
      exact ⟨v, .ty T.name, .type t.name, .type T.name, t.sub T, rfl, .ty _, rv.tyx ht, kit_ty (kit_sub t T hT), EPost.ok_here G1 h1 _ (.bl _)⟩
    · exact h1.elim

/-! ### sorted -/
def isins (x : Int) : List Int → List Int
  | [] => [x]
  | y :: ys => if x ≤ y then x :: y :: ys else y :: isins x ys
def isort (l : List Int) : List Int := l.foldr isins []
def lexle (p q : Int × Int) : Bool := !SrtO.lexB q p
def pins (x : Int × Int) : List (Int × Int) → List (Int × Int)
  | [] => [x]
  | y :: ys => if lexle x y then x :: y :: ys else y :: pins x ys
def psort (l : List (Int × Int)) : List (Int × Int) := l.foldr pins []
theorem isins_perm (x : Int) : ∀ l : List Int, (isins x l).Perm (x :: l)
  | [] => .refl _
  | y :: ys => by
    unfold isins
    split
    · exact .refl _
    · exact (List.Perm.cons y (isins_perm x ys)).trans (List.Perm.swap x y ys)
theorem isort_perm : ∀ l : List Int, (isort l).Perm l
  | [] => .refl _
  | x :: l => (isins_perm x _).trans (List.Perm.cons x (isort_perm l))
theorem isins_srt (x : Int) : ∀ {l : List Int}, l.Pairwise (· ≤ ·) → (isins x l).Pairwise (· ≤ ·)
  | [], _ => by simp [isins]
  | y :: ys, h => by
    unfold isins
    have h' := List.pairwise_cons.mp h
    split
    · rename_i hxy
      refine List.pairwise_cons.mpr ⟨fun z hz => ?_, h⟩
      rcases List.mem_cons.mp hz with rfl | hz
      · exact hxy
      · exact Int.le_trans hxy (h'.1 z hz)
    · rename_i hxy
      refine List.pairwise_cons.mpr ⟨fun z hz => ?_, isins_srt x h'.2⟩
      rcases List.mem_cons.mp ((isins_perm x ys).mem_iff.mp hz) with rfl | hz
      · omega
      · exact h'.1 z hz
theorem isort_srt : ∀ l : List Int, (isort l).Pairwise (· ≤ ·)
  | [] => List.Pairwise.nil
  | x :: l => isins_srt x (isort_srt l)
theorem perm_srt {α : Type} {le : α → α → Prop} (anti : ∀ a b, le a b → le b a → a = b) (rfl_ : ∀ a, le a a) : ∀ {l m : List α}, l.Perm m → l.Pairwise le → m.Pairwise le → l = m
  | [], m, h, _, _ => (List.Perm.nil_eq h)
  | x :: l, [], h, _, _ => by simpa using h.length_eq
  | x :: l, y :: m, h, h1, h2 => by
    have p1 := List.pairwise_cons.mp h1
    have p2 := List.pairwise_cons.mp h2
    have e : x = y := by
      have hx : x ∈ y :: m := h.mem_iff.mp List.mem_cons_self
      have hy : y ∈ x :: l := h.mem_iff.mpr List.mem_cons_self
      rcases List.mem_cons.mp hx with hx | hx
      · exact hx
      · rcases List.mem_cons.mp hy with hy | hy
        · exact hy.symm
        · exact anti _ _ (p1.1 y hy) (p2.1 x hx)
    subst e
    rw [perm_srt anti rfl_ (List.Perm.cons_inv h) p1.2 p2.2]
theorem lexle_iff {p q : Int × Int} : lexle p q = true ↔ p.1 < q.1 ∨ (p.1 = q.1 ∧ p.2 ≤ q.2) := by
  unfold lexle
  cases h : SrtO.lexB q p with
  | true => have := SrtO.lexB_iff.mp h; simp; omega
  | false => have := SrtO.lexB_no.mp h; simp; omega
theorem pins_perm (x : Int × Int) : ∀ l : List (Int × Int), (pins x l).Perm (x :: l)
  | [] => .refl _
  | y :: ys => by
    unfold pins
    split
    · exact .refl _
    · exact (List.Perm.cons y (pins_perm x ys)).trans (List.Perm.swap x y ys)
theorem psort_perm : ∀ l : List (Int × Int), (psort l).Perm l
  | [] => .refl _
  | x :: l => (pins_perm x _).trans (List.Perm.cons x (psort_perm l))
theorem pins_srt (x : Int × Int) : ∀ {l : List (Int × Int)}, l.Pairwise (fun a b => lexle a b = true) → (pins x l).Pairwise (fun a b => lexle a b = true)
  | [], _ => by simp [pins]
  | y :: ys, h => by
    unfold pins
    have h' := List.pairwise_cons.mp h
    split
    · rename_i hxy
      refine List.pairwise_cons.mpr ⟨fun z hz => ?_, h⟩
      rcases List.mem_cons.mp hz with rfl | hz
      · exact hxy
      · have := h'.1 z hz
        rw [lexle_iff] at *
        omega
    · rename_i hxy
      refine List.pairwise_cons.mpr ⟨fun z hz => ?_, pins_srt x h'.2⟩
      rcases List.mem_cons.mp ((pins_perm x ys).mem_iff.mp hz) with rfl | hz
      · rw [lexle_iff] at *
        omega
      · exact h'.1 z hz
theorem psort_srt : ∀ l : List (Int × Int), (psort l).Pairwise (fun a b => lexle a b = true)
  | [] => List.Pairwise.nil
  | x :: l => pins_srt x (psort_srt l)
/-- sorted(xs) of pairs, any tuples that may be read -/
def rSortedPT (K : PySem.W.Frag) : List V → Hp → VK → Prop := fun vs H Q => ∃ (a : Addr) (xs : List V) (ps : List (Int × Int)), vs = [V.ref a] ∧ SqL K H a xs ∧ xs.length = ps.length ∧ (∀ (i : Nat) x p, xs[i]? = some x → ps[i]? = some p → ∃ t, x = V.ref t ∧ SqT K H t [.int p.1, .int p.2]) ∧
  ∀ ys p, ys.length = ps.length → (∀ (i : Nat) y, ys[i]? = some y → ∃ j : Nat, xs[j]? = some y ∧ ps[j]? = (psort ps)[i]?) → H p = none → Q (.ref p) (upd H p (.lst ys))
open Classical in
noncomputable def keyOf (K : PySem.W.Frag) (H : Hp) (v : V) : Int × Int := if h : ∃ p : Int × Int, ∃ t, v = V.ref t ∧ SqT K H t [.int p.1, .int p.2] then h.choose else (0, 0)
theorem cr_sortedPT : CallR X (.builtin "sorted") (rSortedPT X.K) := by
  intro pins s σ H vs us Q I r h
  obtain ⟨a, xs, ps, rfl, hs, hlen, hx, q⟩ := h
  obtain ⟨its, rv, hl, hz⟩ := I.list hs
  obtain ⟨u, rfl, ru⟩ := vals1 r
  obtain rfl : u = Value.ref a := ru
  have hk : ∀ (i : Nat) x p, xs[i]? = some x → ps[i]? = some p → keyOf X.K H x = p := fun i x p h1 h2 => by
    obtain ⟨t, rfl, ht⟩ := hx i x p h1 h2
    have ex : ∃ p : Int × Int, ∃ t', V.ref t = V.ref t' ∧ SqT X.K H t' [.int p.1, .int p.2] := ⟨p, t, rfl, ht⟩
    unfold keyOf
    rw [dif_pos ex]
    have sp := ex.choose_spec
    revert sp
    generalize ex.choose = c
    intro ⟨t', e, ht'⟩
    have := I.tuple_inj ht ((V.ref.inj e) ▸ ht')
    simp at this
    exact Prod.ext this.1.symm this.2.symm
  have hx' : ∀ x ∈ xs, ∃ t, x = V.ref t ∧ SqT X.K H t [.int (keyOf X.K H x).1, .int (keyOf X.K H x).2] := fun x m => by
    obtain ⟨i, hi, rfl⟩ := List.mem_iff_getElem.mp m
    have hip : i < ps.length := by omega
    have := hx i xs[i] ps[i] (by simp [hi]) (by simp [hip])
    rw [hk i xs[i] ps[i] (by simp [hi]) (by simp [hip])]
    exact this
  have hmap : xs.map (keyOf X.K H) = ps := by
    apply List.ext_getElem?
    intro i
    rw [List.getElem?_map]
    cases h1 : xs[i]? with
    | none =>
      have := List.getElem?_eq_none_iff.mp h1
      rw [List.getElem?_eq_none (by omega)]; rfl
    | some x =>
      have hi := (List.getElem?_eq_some_iff.mp h1).1
      have hip : i < ps.length := by omega
      rw [List.getElem?_eq_getElem hip]
      exact congrArg some (hk i x ps[i] h1 (by simp [hip]))
  obtain ⟨e1, e2⟩ := refs_back rv fun x m => by
    obtain ⟨t, e, _⟩ := hx' x m
    exact ⟨t, e⟩
  refine SrtO.sorted_pairsO (k := fun u => keyOf X.K H (backV u)) hl.isList (by rw [← rv.length]; exact hz) (fun v hv => ?_) fun h' d out h1 h2 kp hd hn => ?_
  · obtain ⟨t, rfl⟩ := e2 v hv
    have hm : V.ref t ∈ xs := by rw [e1]; exact List.mem_map.mpr ⟨_, hv, rfl⟩
    obtain ⟨t', e, ht⟩ := hx' _ hm
    cases e
    obtain ⟨its2, r2, ⟨o, ho, hc, n, hd⟩, _⟩ := I.tuple ht
    obtain ⟨u1, u2, rfl, ri, rj⟩ := vals2 r2
    obtain ⟨t1, rfl⟩ := ri
    obtain ⟨t2, rfl⟩ := rj
    exact ⟨t, o, t1, t2, n, rfl, ho, hc, hd⟩
  · have h3 : ∀ u ∈ out, ∃ a, u = Value.ref a := fun u hu => e2 u (h2.perm.mem_iff.mp hu)
    obtain ⟨n, hn⟩ := hn
    have hb : SrtO.Stb (ltP (keyOf X.K H)) (out.map backV) xs := by
      rw [e1]
      exact SrtO.Stb.map (ltP_swo (keyOf X.K H)) backV h2
    have hsr : SrtO.Srtd (ltP (keyOf X.K H)) (out.map backV) := SrtO.srtd_map h1
    have hkey : (out.map backV).map (keyOf X.K H) = psort ps := by
      refine perm_srt (le := fun a b => lexle a b = true) (fun a b h1 h2 => ?_) (fun a => ?_) ?_ ?_ (psort_srt ps)
      · rw [lexle_iff] at h1 h2
        exact Prod.ext (by omega) (by omega)
      · rw [lexle_iff]; omega
      · refine (hb.perm.map _).trans ?_
        rw [hmap]
        exact (psort_perm ps).symm
      · rw [List.pairwise_map]
        exact hsr.imp fun {x y} h => by
          unfold lexle
          rw [show SrtO.lexB (keyOf X.K H y) (keyOf X.K H x) = false from h]; rfl
    refine ⟨.ref d, upd H d (.lst (out.map backV)), I.laid (t' := s.toks) kp hd ⟨?_, out, n, vals_back h3, hn⟩, rfl, q _ d (by rw [hb.len, hlen]) (fun i y hy => ?_) (I.hok.fresh hd)⟩
    · rw [hb.len]
      exact hz
    · have hm : y ∈ xs := hb.perm.mem_iff.mp (List.mem_of_getElem? hy)
      obtain ⟨j, hj, rfl⟩ := List.mem_iff_getElem.mp hm
      refine ⟨j, by simp [hj], ?_⟩
      have hjp : j < ps.length := by omega
      rw [← hkey, List.getElem?_map, hy]
      rw [List.getElem?_eq_getElem hjp]
      exact congrArg some (hk j xs[j] ps[j] (by simp [hj]) (by simp [hjp])).symm
/-- the pairs of a list of pairs -/
def wpairs : List PyData → Option (List (Int × Int))
  | [] => some []
  | .tuple [.int i, .int j] :: ws => (wpairs ws).map ((i, j) :: ·)
  | _ :: _ => none
def wpair (p : Int × Int) : PyData := .tuple [.int p.1, .int p.2]
@[simp] theorem wpairs_map (ps : List (Int × Int)) : wpairs (ps.map wpair) = some ps := by
  induction ps with
  | nil => rfl
  | cons p ps ih => rw [List.map_cons]; unfold wpair wpairs; rw [show wpairs (ps.map fun p => .tuple [.int p.1, .int p.2]) = some ps from ih]; rfl
theorem wpairs_of : ∀ {ws : List PyData} {ps : List (Int × Int)}, wpairs ws = some ps → ws = ps.map wpair
  | [], ps, h => by cases h; rfl
  | w :: ws, ps, h => by
    unfold wpairs at h
    split at h
    · rename_i heq; cases heq
    · rename_i i j ws' heq
      cases heq
      cases z : wpairs ws with
      | none => rw [z] at h; cases h
      | some ps' => rw [z] at h; cases h; rw [wpairs_of z]; rfl
    · cases h
def gSorted : List Vl → Option PyData
  | [x] => match x.items with
    | some ws => match wints ws with
      | some ns => some (.list ((isort ns).map .int))
      | none => (wpairs ws).map fun ps => .list ((psort ps).map wpair)
    | none => none
  | _ => none
theorem cals_sorted : CalS K (fun xs H Q => rSortedI K xs H Q ∨ rSortedPT K xs H Q) gSorted := by
  intro B ω σ H env vs xs z Q G rv e q
  unfold gSorted at e
  split at e
  · rename_i x
    obtain ⟨v, rfl, r⟩ := rv.one
    split at e
    · rename_i ws hw
      obtain ⟨a, us, rfl, s, rr⟩ := r.items hw
      split at e
      · rename_i ns hn
        cases e
        have := wints_of hn rr
        subst this
        refine .inl ⟨a, ns, rfl, s, fun ns' p h1 h2 hp => ?_⟩
        have e : ns' = isort ns := perm_srt (le := (· ≤ ·)) (fun a b => Int.le_antisymm) Int.le_refl (h1.trans (isort_perm ns).symm) h2 (isort_srt ns)
        subst e
        refine q ω _ _ (.alloc hp) (G.alloc hp) (RW.newL G hp ⟨by simp, fun i v w y1 y2 => ?_⟩)
        rw [List.getElem?_map] at y1 y2
        cases t : (isort ns)[i]? with
        | none => rw [t] at y1; cases y1
        | some n => rw [t] at y1 y2; cases y1; cases y2; exact .int n
      · cases hp : wpairs ws with
        | none => rw [hp] at e; cases e
        | some ps =>
          rw [hp] at e; cases e
          have hws := wpairs_of hp
          subst hws
          have hsq : ∀ (i : Nat) x p, us[i]? = some x → ps[i]? = some p → RW K ω H x (wpair p) := fun i x p y1 y2 => rr.2 i x _ y1 (by rw [List.getElem?_map, y2]; rfl)
          refine .inr ⟨a, us, ps, rfl, s, by simpa using rr.1, fun i x p y1 y2 => ?_, fun ys p hl hy hp => ?_⟩
          · cases hsq i x p y1 y2 with
            | @tup t vs _ f l g =>
              refine ⟨t, rfl, ?_⟩
              have : vs = [.int p.1, .int p.2] := by
                match vs, l with
                | [v1, v2], _ =>
                  have g1 := g 0 v1 (.int p.1) rfl rfl
                  have g2 := g 1 v2 (.int p.2) rfl rfl
                  cases g1; cases g2; rfl
              rw [← this]
              exact f.sq
          · refine q ω _ _ (.alloc hp) (G.alloc hp) (RW.newL G hp ⟨by rw [hl, List.length_map, (psort_perm ps).length_eq], fun i v w y1 y2 => ?_⟩)
            obtain ⟨j, h1, h2⟩ := hy i v y1
            rw [List.getElem?_map, ← h2] at y2
            cases t : ps[j]? with
            | none => rw [t] at y2; cases y2
            | some pp => rw [t] at y2; cases y2; exact hsq j v pp h1 t
    · cases e
  · cases e
theorem call_sortedA : CallR X (.builtin "sorted") (fun xs H Q => rSortedI X.K xs H Q ∨ rSortedPT X.K xs H Q) := CallR.or cr_sortedI cr_sortedPT
end
end MV
set_option Elab.async false
set_option linter.all false
set_option maxRecDepth 100000
set_option maxHeartbeats 4000000
namespace MV
open PySem PySem.Spec PyProof.Rows L2
section
variable {X : Cx} {W : WX} {kp : Nat → Bool} {q q1 q2 q3 m : Bool} {e a b c tg iter elt o i : Expr} {es rest ifs : List Expr} {pos tpos : Pos} {f fa fb fc fe fo fi : En → Rs Vl} {K : PySem.W.Frag} {mg : Str → Option Value}
/-! ### a walk over a list, a tuple or a text -/
def fIt (f : En → Rs Vl) : En → Rs (List PyData) := fun env => (f env).bind fun x e => match x with
  | .lf (.list ws) => .ok ws e
  | .lf (.tuple ws) => .ok ws e
  | .lf (.str z) => .ok (signs z) e
  | _ => .bad
def wOf (K : PySem.W.Frag) (mg : Str → Option Value) (W : WX) (q : Bool) (f : En → Rs (List PyData)) : TI := fun σ H R => ∃ B ω env, Good K B ω σ H env ∧ EPost K mg W q B ω σ H (fun ws _ ω' H' => ∀ J, Items K ω' H' J ws → R J H') (f env)
theorem vi_any (h : VE X W q e f) : VI X W q tg e (fIt f) := by
  obtain ⟨t, p, s⟩ := h.ex
  refine ⟨wOf X.K X.mg W q (fIt f), ⟨fun pins sh σ H R I ⟨B, ω, env, G, z⟩ => ?_⟩, ⟨fun hq env x e z => ?_, fun B ω σ H env R G z => ⟨B, ω, env, G, z⟩⟩⟩
  · unfold fIt at z
    cases y : f env with
    | bad => rw [y] at z; exact z.elim
    | ex c e =>
      refine (pi_list (tg := tg) p).run pins sh σ H R I (s.run B ω σ H env _ G ?_)
      rw [y] at z ⊢
      exact z
    | ok x e =>
      rw [y] at z
      dsimp only [Rs.bind_ok] at z
      split at z
      · rename_i ws
        refine (pi_list (tg := tg) p).run pins sh σ H R I (s.run B ω σ H env _ G ?_)
        rw [y]
        intro ω1 H1 ev qu G1 v rv
        cases (show RW X.K ω1 H1 v (.list ws) from rv) with
        | @lst a vs _ f l g => exact ⟨a, rfl, ⟨vs, f.sq⟩, z ω1 H1 ev qu G1 _ (items_list f ⟨l, g⟩)⟩
      · rename_i ws
        refine (pi_tup (tg := tg) p).run pins sh σ H R I (s.run B ω σ H env _ G ?_)
        rw [y]
        intro ω1 H1 ev qu G1 v rv
        cases (show RW X.K ω1 H1 v (.tuple ws) from rv) with
        | @tup a vs _ f l g => exact ⟨a, rfl, ⟨vs, f.sq⟩, z ω1 H1 ev qu G1 _ (items_tup f ⟨l, g⟩)⟩
      · rename_i w
        refine (pi_str (tg := tg) p).run pins sh σ H R I (s.run B ω σ H env _ G ?_)
        rw [y]
        intro ω1 H1 ev qu G1 v rv
        cases (show RW X.K ω1 H1 v (.str w) from rv)
        exact ⟨w, rfl, z ω1 H1 ev qu G1 _ items_str⟩
      · exact z.elim
  · obtain ⟨a, e1, z1, z2⟩ := Rs.bind_st (env := env) z
    split at z2 <;> first | cases z2 | skip
    all_goals exact s.st hq _ _ _ z1

/-- a tuple target, a tuple or a list handed in -/
def tgAny (n : Nat) (gs : List PyData → En → Option En) : PyData → En → Option En := fun w env => match w with
  | .tuple ws => if ws.length = n then gs ws env else none
  | .list ws => if ws.length = n then gs ws env else none
  | _ => none
theorem vg_any {k : Nat} {gs : List PyData → En → Option En} {n : Nat} (hc : X.calm = true) (h : VGs X kp es gs) (hn : (assignEach es X.env).length = n := by rfl) (hst : (assignEach es X.env).findIdx? (·.1) = none := by rfl) : VG X kp (.Tuple es k pos) (tgAny n gs) := by
  have h1 := vg_tup (pos := pos) (k := k) hc h hn hst
  have h2 := vg_lst (pos := pos) (k := k) hc h hn hst
  obtain ⟨t1, p1, s1⟩ := h1.ex
  obtain ⟨t2, p2, s2⟩ := h2.ex
  refine ⟨gOf X.K kp (tgAny n gs), ⟨fun pins sh σ H v u Q I r ⟨B, ω, env, w, G, rw_, z⟩ => ?_⟩, ⟨fun B ω σ H env v w Q G r z => ⟨B, ω, env, w, G, r, z⟩, fun w env e z => ?_⟩⟩
  · cases w with
    | tuple ws => exact p1.run pins sh σ H v u Q I r (s1.run B ω σ H env v (.tuple ws) Q G rw_ z)
    | list ws => exact p2.run pins sh σ H v u Q I r (s2.run B ω σ H env v (.list ws) Q G rw_ z)
    | _ => exact z.elim
  · cases w with
    | tuple ws => exact s1.st (.tuple ws) env e z
    | list ws => exact s2.st (.list ws) env e z
    | _ => cases z
theorem hu65 {A : Around} {k : Nat} (hr : Room k A) : A.units + 65 < cLine := by have := hr.un; omega
theorem hu64 {A : Around} {k : Nat} (hr : Room k A) : A.units + 64 < cLine := by have := hr.un; omega
/-! ### in, of any kind -/
def gIn (neg : Bool) : G2 := gOr (gInD neg) (gOr (gInF neg) (gInC neg))
def rInA (K : PySem.W.Frag) : R2 := fun x y H Q => rInD K x y H Q ∨ rIn K false x y H Q ∨ ∃ (c : Nat) (z : Str), x = .str ⟨#[c]⟩ ∧ y = .str z ∧ Q (.bl (decide (c ∈ z.cps.toList))) H
def rNotInA (K : PySem.W.Frag) : R2 := fun x y H Q => rNotInD K x y H Q ∨ rIn K true x y H Q ∨ ∃ (c : Nat) (z : Str), x = .str ⟨#[c]⟩ ∧ y = .str z ∧ Q (.bl (!decide (c ∈ z.cps.toList))) H
theorem op_inA (hu : X.A.units + 65 < cLine) : OpR X (compareOp .In) (rInA X.K) := OpR.or (op_inD hu) (OpR.or op_in_seq op_in_sign)
theorem op_notInA (hu : X.A.units + 65 < cLine) : OpR X (compareOp .NotIn) (rNotInA X.K) := OpR.or (op_notInD hu) (OpR.or op_notIn_seq op_notIn_sign)
theorem ops_inA : OpS K (rInA K) (gIn false) := OpS.or ops_inD (OpS.or ops_inF ops_inC)
theorem ops_notInA : OpS K (rNotInA K) (gIn true) := OpS.or ops_notInD (OpS.or ops_notInF ops_notInC)
/-! ### // -/
def gDiv : G2 := gI (fun _ j => decide (0 < j) && decide (j < 1073741824)) fun i j => .int (i / j)
theorem ops_div : OpS K (rI CDiv fun i j => .int (i / j)) gDiv := ops_rI (fun i j h => by
  simp only [Bool.and_eq_true, decide_eq_true_eq] at h
  exact h) fun _ _ _ _ => .int _
/-- ** -/
def gPow : G2 := gI (fun i j => decide (0 ≤ j) && decide (j ≤ 1000000) && decide (i.natAbs < 2 ^ 64)) fun i j => .int (i ^ j.toNat)
theorem ops_pow : OpS K (rI CPow fun i j => .int (i ^ j.toNat)) gPow := ops_rI (fun i j h => by
  simp only [Bool.and_eq_true, decide_eq_true_eq] at h
  exact ⟨h.1.1, h.1.2, h.2⟩) fun _ _ _ _ => .int _

/-! ### a new list of one's own, out of an expression that makes one -/
/-- a + b, lists -/
def fOBin (q2 : Bool) (fa fb : En → Rs Vl) : En → Rs O := fun env => (fa env).bind fun x e => if q2 || x.isLf then (fb e).bind fun y e' => (match x.items, y.items with
  | some xs, some ys => if xs.length + ys.length ≤ sizeLine then .ok (.lst ((xs ++ ys).map .lf)) e' else .bad
  | _, _ => .bad) else .bad
theorem RO.ofNew {ω' : Om} {H' : Hp} {B : Nat} {D : Addr} {vs : List V} {ws : List PyData} (hω : ω' D = .mine [B]) (hH : H' D = some (.lst vs)) (r : RWs K ω' H' vs ws) : RO K ω' H' [B] (.ref D) (.lst (ws.map .lf)) :=
  .lst hω hH (by simp [r.1]) fun i v o y1 y2 => by
    rw [List.getElem?_map] at y2
    cases t : ws[i]? with
    | none => rw [t] at y2; cases y2
    | some w => rw [t] at y2; cases y2; exact .lf (r.2 i v w y1 t)
theorem vo_cat (ha : VE X W q1 a fa) (hb : VE X W q2 b fb) : VO X W (.BinOp a .Add b pos) (fOBin q2 fa fb) := by
  obtain ⟨ta, pa, sa⟩ := ha.ex
  obtain ⟨tb, pb, sb⟩ := hb.ex
  refine ⟨_, pe_op op_catL pa pb, fun B ω σ H env Q G z => sa.run B ω σ H env _ G ((OPost.bindA z).imp fun x e ω1 H1 _ ev1 qu1 G1 h1 => fun v rv => ?_)⟩
  split at h1
  · rename_i hq
    refine sb.run B ω1 σ H1 e _ G1 ((OPost.bindA (q := q2) h1).imp fun y e' ω2 H2 _ ev2 qu2 G2 h2 => fun u ru => ?_)
    split at h2
    · rename_i xs ys hx hy
      split at h2
      · rename_i hl
        obtain ⟨a1, vs, rfl, s1, w1⟩ := (rv.keep hq ev2 qu2).items hx
        obtain ⟨a2, us, rfl, s2, w2⟩ := ru.items hy
        refine ⟨a1, a2, vs, us, rfl, rfl, s1, s2, by rw [w1.1, w2.1]; exact hl, fun D hD => ?_⟩
        obtain ⟨k1, k2, k3⟩ := new_own (u := .lst (vs ++ us)) G2 hD
        exact h2 _ _ _ k1 k2 (RO.ofNew (by simp) upd_same ⟨(w1.append w2).1, fun i v w y1 y2 => k3 _ _ ((w1.append w2).2 i v w y1 y2)⟩)
      · exact h2.elim
    · exact h2.elim
  · exact h1.elim
/-- list(x) -/
def fOList (fs : En → Rs (List Vl)) : En → Rs O := fun env => (fs env).bind fun xs e => match xs with
  | [x] => match x.items with
    | some ws => .ok (.lst (ws.map .lf)) e
    | none => match x.titems with
      | some ws => .ok (.lst (ws.map .lf)) e
      | none => .bad
  | _ => .bad
theorem vo_list {p : Pos} {fs : En → Rs (List Vl)} (hg : Gl X "list") (hm : X.mg "list" = none) (ha : VA X W q [e] fs) (he : starEach [e] X.env = (false, eval e X.env) :: starEach [] X.env := by rfl)
    (hpl : (backTo pos (starEach [] X.env)).any (·.1) = false := by rfl) : VO X W (.Call (.Name "list" p) [e] [] pos) (fOList fs) := by
  obtain ⟨ta, pa, sa⟩ := ha.ex
  refine ⟨_, pe_callTy call_list_of hg hm (by decide +kernel) pa (by decide) (by decide) he hpl, fun B ω σ H env Q G z => sa.run B ω σ H env _ G ((OPost.bindA z).imp fun xs e ω1 H1 _ ev qu G1 h1 => fun vs rv => ?_)⟩
  split at h1
  · rename_i x hfe
    obtain ⟨v, rfl, r⟩ := rv.one
    split at h1
    · rename_i ws hw
      obtain ⟨a, us, rfl, s, rr⟩ := r.items hw
      refine ⟨a, us, rfl, .inl s, fun D hD => ?_⟩
      obtain ⟨k1, k2, k3⟩ := new_own (u := .lst us) G1 hD
      exact h1 _ _ _ k1 k2 (RO.ofNew (by simp) upd_same ⟨rr.1, fun i v w y1 y2 => k3 _ _ (rr.2 i v w y1 y2)⟩)
    · split at h1
      · rename_i ws hw
        obtain ⟨a, us, rfl, s, rr⟩ := r.titems hw
        refine ⟨a, us, rfl, .inr s, fun D hD => ?_⟩
        obtain ⟨k1, k2, k3⟩ := new_own (u := .lst us) G1 hD
        exact h1 _ _ _ k1 k2 (RO.ofNew (by simp) upd_same ⟨rr.1, fun i v w y1 y2 => k3 _ _ (rr.2 i v w y1 y2)⟩)
      · exact h1.elim
  · exact h1.elim
/-- return of a thing of one's own -/
def fRetO (fo : En → Rs O) : En → Rs Fl := fun env => (fo env).bind fun o e => .ok (.ret o) e
theorem vs_retO {fo : En → Rs O} (h : VO X W e fo) : VS X W kp (.Return (some e) pos) (fRetO fo) := by
  obtain ⟨t, p, s⟩ := h.ex
  exact ⟨_, ps_ret p, fun B ω σ H env D G z => s B ω σ H env _ G (SPost.bindO z fun o e _ ω1 H1 v ev G1 r h1 => h1 ω1 σ H1 v ev (.refl _ _) G1 r)⟩
end
section
variable {P : Program} {w : World} {K : PySem.W.Frag} {mg : Str → Option Value} {base : Heap}
/-- THE RULE for a def, its context written out -/
theorem fun_okC {x qual : Str} {st : Stmt} {f : Addr} {fd : FuncData} {N ps : List Str} {k : Nat} {kp : Nat → Bool} {body : En → Rs Fl} (F : Fun K x qual st f fd) (S : FnScope N ps (defScope st)) (hN : ps.length ≤ N.length)
    (hbody : ∀ (cdv : Value) (A : Around) (outer : List Env) (s : Shared) (H : Hp) (E : XK), Room k (A.deeper (envOfC qual (defScope st) s.heap.objs.size f cdv)) → Takes (cxOf (L2.CX P w) P w K mg base N qual (defScope st) f cdv A outer s H E) (fun cls d _ H => E cls d H) →
      PassesOwn (model P w) (A.deeper (envOfC qual (defScope st) s.heap.objs.size f cdv)) (envOfC qual (defScope st) s.heap.objs.size f cdv) (cxOf (L2.CX P w) P w K mg base N qual (defScope st) f cdv A outer s H E).xe →
      VSs (cxOf (L2.CX P w) P w K mg base N qual (defScope st) f cdv A outer s H E) (fun cls d _ H => E cls d H) kp (defBody st) body) : FnOk P w K mg base (L2.CX P w) (k + 1) f fd ps (spM K mg ps.length (fFun ps.length N.length kp body)) := by
  refine F.okX S (fun vs H Q E h => let ⟨_, _, h1, _⟩ := h; h1) fun cdv A outer s H vs Q E hr hsp => ?_
  obtain ⟨ts, p, sb⟩ := (hbody cdv A outer s H E hr (takes_of rfl rfl rfl rfl) (passes_of rfl)).ex
  refine ⟨ts, p, ?_⟩
  have hl : vs.length = ps.length := let ⟨_, _, h1, _⟩ := hsp; h1
  show ts _ (vs.map some ++ List.replicate (N.length - vs.length) none) H
  rw [hl]
  exact body_run hN sb hsp
theorem fun_okD {x qual : Str} {st : Stmt} {f : Addr} {fd : FuncData} {N ps : List Str} {k : Nat} {kp : Nat → Bool} {body : En → Rs Fl} {n NN : Nat} {Fm : List O → Rs O} (hF : Fm = fFun n NN kp body) (hn : ps.length = n) (hNN : N.length = NN) (F : Fun K x qual st f fd) (S : FnScope N ps (defScope st)) (hN : n ≤ NN)
    (hbody : ∀ (cdv : Value) (A : Around) (outer : List Env) (s : Shared) (H : Hp) (E : XK), Room k (A.deeper (envOfC qual (defScope st) s.heap.objs.size f cdv)) → Takes (cxOf (L2.CX P w) P w K mg base N qual (defScope st) f cdv A outer s H E) (fun cls d _ H => E cls d H) →
      PassesOwn (model P w) (A.deeper (envOfC qual (defScope st) s.heap.objs.size f cdv)) (envOfC qual (defScope st) s.heap.objs.size f cdv) (cxOf (L2.CX P w) P w K mg base N qual (defScope st) f cdv A outer s H E).xe →
      VSs (cxOf (L2.CX P w) P w K mg base N qual (defScope st) f cdv A outer s H E) (fun cls d _ H => E cls d H) kp (defBody st) body) : FnOk P w K mg base (L2.CX P w) (k + 1) f fd ps (spM K mg n Fm) := by
  subst hF hn hNN
  exact fun_okC F S hN hbody
/-- the law's own promise: it answers True -/
def spLaw (K : PySem.W.Frag) : Sp := fun vs H Q _ => ∃ (a : Addr) (ns : List Int), vs = [.ref a] ∧ ns.length ≤ 63 ∧ SqL K H a (ns.map V.int) ∧ ∀ H', Q (.bl true) H'
theorem law_imp {k : Nat} {f : Addr} {fd : FuncData} {F : List O → Rs O} (h : FnOk P w K mg base (L2.CX P w) k f fd ["script"] (spM K mg 1 F)) (hF : ∀ ns : List Int, ns.length ≤ 63 → ∃ ps, F [.lf (.list (ns.map .int))] = .ok (.lf (.bool true)) ps) : FnOk P w K mg base (L2.CX P w) k f fd ["script"] (spLaw K) :=
  h.imp fun vs H Q E ⟨a, ns, hv, hl, hs, hq⟩ => by
    subst hv
    refine ⟨fun _ => .fr, [.lf (.list (ns.map .int))], rfl, rfl, fun j v o e1 e2 => ?_, (fun a p z => nomatch z), fun _ _ => rfl, ?_⟩
    · cases j with
      | zero =>
        simp at e1 e2
        subst e1; subst e2
        refine .lf (.lst (vs := ns.map V.int) (hs.elim (fun z => .inl ⟨z, rfl⟩) .inr) (by simp) fun i v w y1 y2 => ?_)
        rw [List.getElem?_map] at y1 y2
        cases t : ns[i]? with
        | none => rw [t] at y1; cases y1
        | some n => rw [t] at y1 y2; cases y1; cases y2; exact .int n
      | succ j => simp at e1
    · obtain ⟨ps, e⟩ := hF ns hl
      rw [e]
      intro ω' H' v B ev hB hr hw r _
      cases r with
      | lf r => cases r; exact hq H'
end
end MV
set_option Elab.async false
set_option linter.all false
set_option maxRecDepth 100000
set_option maxHeartbeats 4000000
namespace MV
open PySem PySem.Spec PyProof.Rows L2
/-! ### list comprehensions whose items are things of their own -/
def vLcO (vs : List Nat) (g : PyData → En → Option En) (tt : En → Rs Bool) (fe : En → Rs O) : List PyData → List O → En → Rs (List O)
  | [], acc, e => .ok acc e
  | w :: ws, acc, e => match g w (wipeE e vs) with
    | none => .bad
    | some e1 => (noEx (tt e1)).bind fun b e2 => if b then (noEx (fe e2)).bind fun y e3 => (if acc.length < sizeLine then vLcO vs g tt fe ws (acc ++ [y]) e3 else .bad) else vLcO vs g tt fe ws acc e2
def fLcO (fi : En → Rs (List PyData)) (vs : List Nat) (g : PyData → En → Option En) (tt : En → Rs Bool) (fe : En → Rs O) : En → Rs O := fun env => (fi env).bind fun ws e => if okOwn e vs then (vLcO vs g tt fe ws [] e).bind fun acc e' => .ok (.lst acc) (restE e e' vs) else .bad
def tOfO (K : PySem.W.Frag) (mg : Str → Option Value) (W : WX) (f : En → Rs O) : TE := fun σ H Q => ∃ B ω env, Good K B ω σ H env ∧ OPost K mg W B ω σ H Q (f env)
/-- whose an address will be, once the list is done -/
def ωt (τ : Addr → Option (List Nat)) (ω : Om) : Om := fun a => match τ a with
  | some p => .mine p
  | none => ω a
def ωz (τ : Addr → Option (List Nat)) (ω : Om) : Om := fun a => match τ a with
  | some _ => .fr
  | none => ω a
theorem ωt_none {τ : Addr → Option (List Nat)} {ω : Om} {a : Addr} (h : τ a = none) : ωt τ ω a = ω a := by unfold ωt; rw [h]
theorem ωt_some {τ : Addr → Option (List Nat)} {ω : Om} {a : Addr} {p : List Nat} (h : τ a = some p) : ωt τ ω a = .mine p := by unfold ωt; rw [h]
theorem ωz_none {τ : Addr → Option (List Nat)} {ω : Om} {a : Addr} (h : τ a = none) : ωz τ ω a = ω a := by unfold ωz; rw [h]
theorem ωz_some {τ : Addr → Option (List Nat)} {ω : Om} {a : Addr} {p : List Nat} (h : τ a = some p) : ωz τ ω a = .fr := by unfold ωz; rw [h]
/-- things that are being made, known to nobody else -/
structure MkT (B : Nat) (ω1 : Om) (H1 : Hp) (τ : Addr → Option (List Nat)) (ω : Om) (H : Hp) : Prop where
  own : ∀ a p, τ a = some p → ω a = .out ∧ (∀ x, H1 a = some x → ω1 a ≠ .fr ∧ ω1 a ≠ .out) ∧ (∃ x, H a = some x) ∧ ∃ q, p = B :: q
  ev : Evo ω1 H1 (ωz τ ω) H
section
variable {B : Nat} {ω1 ω ω' : Om} {H1 H H' : Hp} {τ : Addr → Option (List Nat)} {K : PySem.W.Frag} {mg : Str → Option Value} {W : WX}
theorem MkT.nf (h : MkT B ω1 H1 τ ω H) {a : Addr} {o : HO} (e : H1 a = some o) (z : ω1 a = .fr) : τ a = none := by
  cases t : τ a with
  | none => rfl
  | some p => exact absurd z ((h.own a p t).2.1 o e).1
theorem MkT.no (h : MkT B ω1 H1 τ ω H) {a : Addr} {o : HO} (e : H1 a = some o) (z : ω1 a = .out) : τ a = none := by
  cases t : τ a with
  | none => rfl
  | some p => exact absurd z ((h.own a p t).2.1 o e).2
theorem MkT.evt (h : MkT B ω1 H1 τ ω H) : Evo ω1 H1 (ωt τ ω) H := ⟨fun a o e z => by
    obtain ⟨k1, k2⟩ := h.ev.fr a o e z
    rw [ωz_none (h.nf e z)] at k1
    rw [ωt_none (h.nf e z)]; exact ⟨k1, k2⟩, fun a o e z => by
    obtain ⟨k1, k2⟩ := h.ev.out a o e z
    rw [ωz_none (h.no e z)] at k1
    rw [ωt_none (h.no e z)]; exact ⟨k1, k2⟩, fun a z => by
    cases t : τ a with
    | none => rw [ωt_none t] at z; exact h.ev.back a (by rw [ωz_none t]; exact z)
    | some p => (rw [ωt_some t] at z; cases z), h.ev.frz⟩
theorem MkT.step (h : MkT B ω1 H1 τ ω H) (ev : Evo ω H ω' H') : MkT B ω1 H1 τ ω' H' ∧ ∀ a p x, τ a = some p → H a = some x → H' a = some x := by
  refine ⟨⟨fun a p t => ?_, ⟨fun a o e z => ?_, fun a o e z => ?_, fun a z => ?_, fun a o u e => ev.frz a o u (h.ev.frz a o u e)⟩⟩, fun a p x t e => ?_⟩
  · obtain ⟨k1, k2, ⟨x, k3⟩, k4⟩ := h.own a p t
    obtain ⟨k5, k6⟩ := ev.out a x k3 k1
    exact ⟨k5, k2, ⟨x, k6⟩, k4⟩
  · obtain ⟨k1, k2⟩ := h.ev.fr a o e z
    rw [ωz_none (h.nf e z)] at k1 ⊢
    exact ev.fr a o k2 k1
  · obtain ⟨k1, k2⟩ := h.ev.out a o e z
    rw [ωz_none (h.no e z)] at k1 ⊢
    exact ev.out a o k2 k1
  · cases t : τ a with
    | none =>
      rw [ωz_none t] at z
      exact h.ev.back a (by rw [ωz_none t]; exact ev.back a z)
    | some p => rw [ωz_some t] at z; cases z
  · exact (ev.out a x e (h.own a p t).1).2
/-- a tree of things that are being made stays -/
theorem MkT.keepRO {v : V} {o : O} {p : List Nat} (h : MkT B ω1 H1 τ ω H) (ev : Evo ω H ω' H') (hB : ∀ a p, ω a = .mine p → ∃ r q, p = r :: q ∧ r < B) (hp : ∃ q, p = B :: q) (r : RO K (ωt τ ω) H p v o) : RO K (ωt τ ω') H' p v o := by
  obtain ⟨q0, rfl⟩ := hp
  refine r.tr _ (fun a x q z e => ?_) fun a x e z => ?_
  · cases t : τ a with
    | none =>
      rw [ωt_none t] at z
      obtain ⟨r', q', k1, k2⟩ := hB a _ z
      simp at k1
      omega
    | some p =>
      rw [ωt_some t] at z ⊢
      exact ⟨z, (h.step ev).2 a p x t e⟩
  · cases t : τ a with
    | none =>
      rw [ωt_none t] at z ⊢
      obtain ⟨k1, k2⟩ := ev.fr a x e z
      exact ⟨k1, k2⟩
    | some p => rw [ωt_some t] at z; cases z
/-- one more item: whose its addresses are then -/
def ω6 (B : Nat) (ω5 : Om) : Om := fun a => match ω5 a with
  | .mine (r :: q) => if r = B then .out else .mine (r :: q)
  | x => x
def τ6 (B n : Nat) (ω5 : Om) (τ : Addr → Option (List Nat)) : Addr → Option (List Nat) := fun a => match ω5 a with
  | .mine (r :: q) => if r = B then some (B :: n :: q) else τ a
  | _ => τ a
theorem ω6_new {ω5 : Om} {a : Addr} {q : List Nat} (h : ω5 a = .mine (B :: q)) : ω6 B ω5 a = .out := by unfold ω6; rw [h]; simp
theorem τ6_new {n : Nat} {ω5 : Om} {a : Addr} {q : List Nat} (h : ω5 a = .mine (B :: q)) : τ6 B n ω5 τ a = some (B :: n :: q) := by unfold τ6; rw [h]; simp
theorem ω6_old {ω5 : Om} {a : Addr} (h : ∀ q, ω5 a ≠ .mine (B :: q)) : ω6 B ω5 a = ω5 a := by
  unfold ω6
  split
  · rename_i r q e
    rw [if_neg (fun t => h q (by rw [e, t])), e]
  · rfl
theorem τ6_old {n : Nat} {ω5 : Om} {a : Addr} (h : ∀ q, ω5 a ≠ .mine (B :: q)) : τ6 B n ω5 τ a = τ a := by
  unfold τ6
  split
  · rename_i r q e
    rw [if_neg (fun t => h q (by rw [e, t]))]
  · rfl
theorem mineB (ω5 : Om) (a : Addr) : (∃ q, ω5 a = .mine (B :: q)) ∨ ∀ q, ω5 a ≠ .mine (B :: q) := by
  by_cases h : ∃ q, ω5 a = .mine (B :: q)
  · exact .inl h
  · exact .inr fun q e => h ⟨q, e⟩
theorem MkT.add {D : Addr} {n : Nat} {σ : L2.St} {env : En} {u : HO} (h : MkT B ω1 H1 τ ω H) (hD : τ D = some [B]) (G : Good K (B + 1) ω σ H env) (hnf : ∀ o u, H D ≠ some (.frz o u)) : MkT B ω1 H1 (τ6 B n ω τ) (ω6 B ω) (upd H D u) := by
  have up : ∀ a, (∃ x, H a = some x) → ∃ x, upd H D u a = some x := fun a ⟨x, e⟩ => by
    by_cases t : a = D
    · subst t; exact ⟨u, upd_same⟩
    · exact ⟨x, by rw [upd_ne t]; exact e⟩
  have nD : ∀ a, τ a = none → a ≠ D := fun a t e => by rw [e, hD] at t; cases t
  refine ⟨fun a p t => ?_, ⟨fun a o e z => ?_, fun a o e z => ?_, fun a z => ?_, fun a o u e => by
    have q := h.ev.frz a o u e
    rw [upd_ne (fun t => by rw [t] at q; exact hnf _ _ q)]; exact q⟩⟩
  · rcases mineB (B := B) ω a with ⟨q, m⟩ | m
    · rw [τ6_new m] at t
      cases t
      refine ⟨ω6_new m, fun x e => ⟨fun z => ?_, fun z => ?_⟩, up a ?_, _, rfl⟩
      · obtain ⟨k1, k2⟩ := h.ev.fr a x e z
        rw [ωz_none (h.nf e z), m] at k1; cases k1
      · obtain ⟨k1, k2⟩ := h.ev.out a x e z
        rw [ωz_none (h.no e z), m] at k1; cases k1
      · cases t : H a with
        | none => have := G.wf a (.of t); rw [m] at this; cases this
        | some x => exact ⟨x, rfl⟩
    · rw [τ6_old m] at t
      obtain ⟨k1, k2, k3, k4⟩ := h.own a p t
      exact ⟨by rw [ω6_old m]; exact k1, k2, up a k3, k4⟩
  · obtain ⟨k1, k2⟩ := h.ev.fr a o e z
    have t := h.nf e z
    rw [ωz_none t] at k1
    have m : ∀ q, ω a ≠ .mine (B :: q) := fun q m => by rw [m] at k1; cases k1
    rw [ωz_none (by rw [τ6_old m]; exact t), ω6_old m, upd_ne (nD a t)]
    exact ⟨k1, k2⟩
  · obtain ⟨k1, k2⟩ := h.ev.out a o e z
    have t := h.no e z
    rw [ωz_none t] at k1
    have m : ∀ q, ω a ≠ .mine (B :: q) := fun q m => by rw [m] at k1; cases k1
    rw [ωz_none (by rw [τ6_old m]; exact t), ω6_old m, upd_ne (nD a t)]
    exact ⟨k1, k2⟩
  · rcases mineB (B := B) ω a with ⟨q, m⟩ | m
    · rw [ωz_some (τ6_new m)] at z; cases z
    · refine h.ev.back a ?_
      cases t : τ a with
      | none =>
        rw [ωz_none (by rw [τ6_old m]; exact t), ω6_old m] at z
        rw [ωz_none t]; exact z
      | some p => rw [ωz_some (by rw [τ6_old m]; exact t)] at z; cases z
theorem MkT.addGood {D : Addr} {σ : L2.St} {env : En} {u : HO} (h : MkT B ω1 H1 τ ω H) (hD : τ D = some [B]) (G : Good K (B + 1) ω σ H env) (hl : env.length ≤ B) (hu : Nw (some u) → False := by exact id) : Good K B (ω6 B ω) σ (upd H D u) env := by
  have oD := (h.own D _ hD).1
  refine ⟨fun i o e => ?_, fun a p e => ?_, fun a e => ?_, hl, G.len⟩
  · obtain ⟨v, k1, k2⟩ := G.rel i o e
    have hi : i < env.length := (List.getElem?_eq_some_iff.mp e).1
    refine ⟨v, k1, k2.tr [i] (fun a x q z y => ?_) fun a x y z => ?_⟩
    · have hne : a ≠ D := fun t => by rw [t, oD] at z; cases z
      rw [ω6_old (fun q' m => by rw [z] at m; simp at m; omega), upd_ne hne]
      exact ⟨z, y⟩
    · have hne : a ≠ D := fun t => by rw [t, oD] at z; cases z
      rw [ω6_old (fun q' m => by rw [z] at m; cases m), upd_ne hne]
      exact ⟨z, y⟩
  · rcases mineB (B := B) ω a with ⟨q, m⟩ | m
    · rw [ω6_new m] at e; cases e
    · rw [ω6_old m] at e
      obtain ⟨r, q, k1, k2⟩ := G.root a p e
      refine ⟨r, q, k1, ?_⟩
      have : r ≠ B := fun t => m q (by rw [e, k1, t])
      omega
  · have hne : a ≠ D := fun t => by rw [t, upd_same] at e; exact (hu e).elim
    rw [upd_ne hne] at e
    have := G.wf a e
    rw [ω6_old (fun q m => by rw [this] at m; cases m)]
    exact this
/-- the items that lay there stay, the new one lies behind -/
theorem MkT.addOld {D : Addr} {n j : Nat} {ω4 : Om} {H4 : Hp} {v : V} {o : O} {u : HO} (h : MkT B ω1 H1 τ ω4 H4) (hD : τ D = some [B]) (hB : ∀ a p, ω4 a = .mine p → ∃ r q, p = r :: q ∧ r < B) (ev : Evo ω4 H4 ω H) (r : RO K (ωt τ ω4) H4 [B, j] v o) : RO K (ωt (τ6 B n ω τ) (ω6 B ω)) (upd H D u) [B, j] v o := by
  refine r.tr _ (fun a x q z e => ?_) fun a x e z => ?_
  · cases t : τ a with
    | none =>
      rw [ωt_none t] at z
      obtain ⟨r', q', k1, k2⟩ := hB a _ z
      simp at k1
      omega
    | some p =>
      rw [ωt_some t] at z
      have hne : a ≠ D := fun y => by
        rw [y, hD] at t; cases t; simp at z
      have o5 := (ev.out a x e (h.own a p t).1)
      have m : ∀ q, ω a ≠ .mine (B :: q) := fun q m => by rw [o5.1] at m; cases m
      rw [ωt_some (by rw [τ6_old m]; exact t), upd_ne hne]
      exact ⟨z, o5.2⟩
  · cases t : τ a with
    | none =>
      rw [ωt_none t] at z
      obtain ⟨k1, k2⟩ := ev.fr a x e z
      have hne : a ≠ D := fun y => by rw [y, hD] at t; cases t
      have m : ∀ q, ω a ≠ .mine (B :: q) := fun q m => by rw [k1] at m; cases m
      rw [ωt_none (by rw [τ6_old m]; exact t), ω6_old m, upd_ne hne]
      exact ⟨k1, k2⟩
    | some p => rw [ωt_some t] at z; cases z
theorem MkT.addNew {D : Addr} {n : Nat} {v : V} {o : O} {u : HO} (h : MkT B ω1 H1 τ ω H) (hD : τ D = some [B]) (r : RO K ω H [B] v o) : RO K (ωt (τ6 B n ω τ) (ω6 B ω)) (upd H D u) [B, n] v o := by
  have oD := (h.own D _ hD).1
  refine r.tr _ (fun a x q z e => ?_) fun a x e z => ?_
  · have hne : a ≠ D := fun t => by rw [t, oD] at z; cases z
    have z' : ω a = .mine (B :: q) := z
    rw [ωt_some (τ6_new z'), upd_ne hne]
    exact ⟨rfl, e⟩
  · have hne : a ≠ D := fun t => by rw [t, oD] at z; cases z
    have m : ∀ q, ω a ≠ .mine (B :: q) := fun q m => by rw [z] at m; cases m
    have t : τ a = none := by
      cases t : τ a with
      | none => rfl
      | some p => have := (h.own a p t).1; rw [z] at this; cases this
    rw [ωt_none (by rw [τ6_old m]; exact t), ω6_old m, upd_ne hne]
    exact ⟨z, e⟩
end
section
variable {X : Cx} {W : WX} {kp : Nat → Bool} {q q1 q2 q3 m : Bool} {e a b c tg iter elt : Expr} {es rest ifs : List Expr} {pos : Pos} {f fa fb fc : En → Rs Vl} {fe : En → Rs O} {K : PySem.W.Frag} {mg : Str → Option Value}
theorem VO.canon (h : VO X W e fe) : PE X e (tOfO X.K X.mg W fe) := by
  obtain ⟨t, p, s⟩ := h.ex
  exact ⟨fun pins sh σ H Q I ⟨B, ω, env, G, z⟩ => p.run pins sh σ H Q I (s B ω σ H env Q G z)⟩
theorem lco_seo {own : List (Str × Nat)} {fi : En → Rs (List PyData)} {g : PyData → En → Option En} {tt : En → Rs Bool} (hi : VI X W q1 tg iter fi) :
    ∃ wi, PI X tg iter wi ∧ SEO X.K X.mg W (tLc wi (gOf X.K (fun j => decide (j ∉ own.map (·.2))) g) (tOfT X.K X.mg W0 q2 tt) (tOfO X.K X.mg W0 fe) (own.map (·.2))) (fLcO fi (own.map (·.2)) g tt fe) := by
  obtain ⟨wi, pi, si⟩ := hi.ex
  refine ⟨wi, pi, fun B ω σ H env Q G z => ?_⟩
  refine si.run B ω σ H env _ G ((OPost.bindA (q := q1) z).imp fun ws e ω1 H1 _ ev1 qu1 G1 h1 => fun J hJ D hD => ?_)
  split at h1
  · rename_i hok
    refine ⟨fun i m H' => ∃ ω' τ env' acc accV, MkT B ω1 H1 τ ω' H' ∧ τ D = some [B] ∧ Good X.K B ω' (wipe σ (own.map (·.2))) H' (wipeE env' (own.map (·.2))) ∧ H' D = some (.lst accV) ∧ accV.length = acc.length ∧ (∀ (j : Nat) v o, accV[j]? = some v → acc[j]? = some o → RO X.K (ωt τ ω') H' [B, j] v o) ∧
      m = ws.length - i ∧ i ≤ ws.length ∧ env'.length = e.length ∧ OPost X.K X.mg W B ω1 σ H1 Q ((vLcO (own.map (·.2)) g tt fe (ws.drop i) acc env').bind fun acc e' => .ok (.lst acc) (restE e e' (own.map (·.2)))),
      ⟨ws.length, fun a => if a = D then .out else ω1 a, fun a => if a = D then some [B] else none, e, [], [], ⟨?_, ?_⟩, by simp, ?_, upd_same, rfl, fun j v o y => by simp at y, by simp, Nat.zero_le _, rfl, by simpa using h1⟩, ?_⟩
    · intro a p t
      split at t
      · rename_i hne
        subst hne
        cases t
        exact ⟨by simp, (fun x y => by rw [hD] at y; cases y), ⟨_, upd_same⟩, [], rfl⟩
      · cases t
    · refine ⟨fun a o e z => ?_, fun a o e z => ?_, fun a z => ?_, fun a o u e => by rw [upd_ne (ne_of_none e hD)]; exact e⟩
      · have hne := ne_of_none e hD
        exact ⟨by unfold ωz; simp [hne, z], by rw [upd_ne hne]; exact e⟩
      · have hne := ne_of_none e hD
        exact ⟨by unfold ωz; simp [hne, z], by rw [upd_ne hne]; exact e⟩
      · by_cases hne : a = D
        · subst hne; unfold ωz at z; simp at z
        · unfold ωz at z; simpa [hne] using z
    · have G2 : Good X.K B (fun a => if a = D then .out else ω1 a) σ (upd H1 D (.lst [])) e := by
        refine ⟨fun i o h => ?_, fun a p h => ?_, fun a h => ?_, G1.nB, G1.len⟩
        · obtain ⟨v, k1, k2⟩ := G1.rel i o h
          refine ⟨v, k1, k2.tr [i] (fun a x q z y => ?_) fun a x y z => ?_⟩
          · have hne := ne_of_none y hD
            exact ⟨by simp [hne, z], by rw [upd_ne hne]; exact y⟩
          · have hne := ne_of_none y hD
            exact ⟨by simp [hne, z], by rw [upd_ne hne]; exact y⟩
        · by_cases hne : a = D
          · subst hne; simp at h
          · exact G1.root a p (by simpa [hne] using h)
        · by_cases hne : a = D
          · subst hne; rw [upd_same] at h; exact h.elim
          · rw [upd_ne hne] at h; simp [hne, G1.wf a h]
      exact G2.wipe _
    · rintro i m H' ⟨ω', τ, env', acc, accV, mk, hτ, G', hDx, hal, racc, rfl, hi, hlen, sp⟩
      have evF : EvoF ω1 H1 ω' H' := fun a o e z => by
        obtain ⟨k1, k2⟩ := mk.ev.fr a o e z
        rw [ωz_none (mk.nf e z)] at k1
        exact ⟨k1, k2⟩
      obtain ⟨j1, j2⟩ := hJ i ω' H' evF G'.wf
      by_cases hlt : i < ws.length
      · right
        obtain ⟨hgo, hy⟩ := j2 ws[i] (by simp [hlt])
        refine ⟨hgo, fun H2 => ∃ ω' τ env' acc accV, MkT B ω1 H1 τ ω' H2 ∧ τ D = some [B] ∧ Good X.K B ω' (wipe σ (own.map (·.2))) H2 (wipeE env' (own.map (·.2))) ∧ H2 D = some (.lst accV) ∧ accV.length = acc.length ∧ (∀ (j : Nat) v o, accV[j]? = some v → acc[j]? = some o → RO X.K (ωt τ ω') H2 [B, j] v o) ∧
          env'.length = e.length ∧ OPost X.K X.mg W B ω1 σ H1 Q ((vLcO (own.map (·.2)) g tt fe (ws.drop (i + 1)) acc env').bind fun acc e' => .ok (.lst acc) (restE e e' (own.map (·.2)))),
          fun H2 ⟨ω2, τ2, e2, a2, aV2, b1, b2, b3, b4, b5, b5', b6, b7⟩ => ⟨ws.length - (i + 1), by omega, ω2, τ2, e2, a2, aV2, b1, b2, b3, b4, b5, b5', rfl, hlt, b6, b7⟩, fun x H2 hx => ?_⟩
        obtain ⟨hH, rw_⟩ := hy x H2 hx
        have qu2 : Quiet ω' H' ω' H2 := by
          rcases hH with rfl | ⟨p, u, hp, rfl⟩
          · exact .refl _ _
          · exact .alloc hp
        have G2 : Good X.K B ω' (wipe σ (own.map (·.2))) H2 (wipeE env' (own.map (·.2))) := by
          rcases hH with rfl | ⟨p, u, hp, rfl⟩
          · exact G'
          · exact G'.alloc hp
        obtain ⟨mk2, hD2⟩ := mk.step qu2.evo
        have hD2 := hD2 D _ _ hτ hDx
        have racc2 := fun j v o y1 y2 => mk.keepRO qu2.evo G'.root ⟨[j], rfl⟩ (racc j v o y1 y2)
        rw [List.drop_eq_getElem_cons hlt] at sp
        unfold vLcO at sp
        cases zg : g ws[i] (wipeE env' (own.map (·.2))) with
        | none => rw [zg] at sp; exact sp.elim
        | some e1 =>
          rw [zg] at sp
          refine ⟨B, ω', wipeE env' (own.map (·.2)), ws[i], G2, rw_, ?_⟩
          rw [zg]
          intro σ3 k3 l3 G3
          have hw3 : wipe σ3 (own.map (·.2)) = wipe σ (own.map (·.2)) := by
            rw [wipe_keep l3 k3]
            apply List.ext_getElem?
            intro t
            rw [wipe_get, wipe_get, wipe_length]
            split
            · rfl
            · rfl
          have le1 : e1.length = e.length := by
            rw [← G3.len, l3, wipe_length, G1.len]
          refine ⟨hw3, ?_⟩
          dsimp only at sp
          refine ⟨B, ω', e1, G3, ?_⟩
          cases zt : tt e1 with
          | bad => rw [zt] at sp; exact sp.elim
          | ex c e2 => rw [zt] at sp; exact sp.elim
          | ok b e2 =>
            rw [zt] at sp
            intro ω4 H4 ev4 qu4 G4
            obtain ⟨mk4, hD4⟩ := mk2.step ev4
            have hD4 := hD4 D _ _ hτ hD2
            have racc4 := fun j v o y1 y2 => mk2.keepRO ev4 G2.root ⟨[j], rfl⟩ (racc2 j v o y1 y2)
            have le2 : e2.length = e.length := by rw [← G4.len, G3.len, le1]
            cases b with
            | false =>
              rw [if_neg Bool.false_ne_true]
              have G5 := G4.wipe (own.map (·.2))
              rw [hw3] at G5
              exact ⟨ω4, τ, e2, acc, accV, mk4, hτ, G5, hD4, hal, racc4, le2, sp⟩
            | true =>
              rw [if_pos rfl]
              refine ⟨B, ω4, e2, G4, ?_⟩
              have sp : OPost X.K X.mg W B ω1 σ H1 Q (((noEx (fe e2)).bind fun y e3 => (if acc.length < sizeLine then vLcO (own.map (·.2)) g tt fe (ws.drop (i + 1)) (acc ++ [y]) e3 else .bad)).bind fun acc e' => .ok (.lst acc) (restE e e' (own.map (·.2)))) := sp
              cases zf : fe e2 with
              | bad => rw [zf] at sp; exact sp.elim
              | ex c e3 => rw [zf] at sp; exact sp.elim
              | ok y e3 =>
                rw [zf] at sp
                intro ω5 H5 v ev5 G5 r5
                dsimp only [noEx, Rs.bind_ok] at sp
                split at sp
                · rename_i hsz
                  obtain ⟨mk5, hD5⟩ := mk4.step ev5
                  have hD5 := hD5 D _ _ hτ hD4
                  have le3 : e3.length = e.length := by rw [← G5.len, G4.len, le2]
                  have hl3 : e3.length ≤ B := by rw [le3]; exact G1.nB
                  refine ⟨accV, hD5, by rw [hal]; exact hsz, ω6 B ω5, τ6 B acc.length ω5 τ, e3, acc ++ [y], accV ++ [v], mk5.add hτ G5 (fun o u t => by rw [hD5] at t; cases t), ?_, ?_, upd_same, by simp [hal], fun j v' o y1 y2 => ?_, le3, sp⟩
                  · have oD := (mk5.own D _ hτ).1
                    rw [τ6_old (fun q m => by rw [oD] at m; cases m)]; exact hτ
                  · have G6 := (mk5.addGood (u := .lst (accV ++ [v])) hτ G5 hl3).wipe (own.map (·.2))
                    rw [hw3] at G6
                    exact G6
                  · by_cases hj : j < accV.length
                    · rw [List.getElem?_append_left hj] at y1
                      rw [List.getElem?_append_left (by rw [← hal]; exact hj)] at y2
                      exact mk4.addOld hτ G4.root ev5 (racc4 j v' o y1 y2)
                    · rw [List.getElem?_append_right (by omega)] at y1 y2
                      have h0 : j - accV.length = 0 := by
                        have := (List.getElem?_eq_some_iff.mp y1).1
                        simp at this; omega
                      rw [h0] at y1
                      rw [← hal, h0] at y2
                      simp at y1 y2
                      subst y1; subst y2
                      have : j = acc.length := by omega
                      subst this
                      exact mk5.addNew hτ r5
                · exact sp.elim
      · left
        have : i = ws.length := by omega
        subst this
        refine ⟨j1 (Nat.le_refl _), ?_⟩
        simp only [List.drop_length, vLcO] at sp
        refine sp (ωt τ ω') H' _ mk.evt ?_ ?_
        · refine ⟨fun i o h => ?_, fun a p h => ?_, fun a h => ?_, by rw [restE_len, hlen]; exact Nat.le_succ_of_le G1.nB, by rw [restE_len, hlen]; exact G1.len⟩
          · have toF : ∀ {p v o}, RO X.K ω' H' p v o → RO X.K (ωt τ ω') H' p v o := fun {p v o} r => r.tr p (fun a x q z y => by
              have t : τ a = none := by
                cases t : τ a with
                | none => rfl
                | some p => have := (mk.own a p t).1; rw [z] at this; cases this
              exact ⟨by rw [ωt_none t]; exact z, y⟩) fun a x y z => by
              have t : τ a = none := by
                cases t : τ a with
                | none => rfl
                | some p => have := (mk.own a p t).1; rw [z] at this; cases this
              exact ⟨by rw [ωt_none t]; exact z, y⟩
            rw [restE_get] at h
            split at h
            · rename_i hin
              have h : e.getD i none = some o := Option.some.inj h
              have hle : i < e.length := by rw [← hlen]; exact hin.2
              have h' : e[i]? = some (some o) := by
                rw [List.getElem?_eq_getElem hle]
                simpa [List.getD, hle] using h
              unfold okOwn at hok
              have := List.all_eq_true.mp hok i hin.1
              rw [h'] at this
              obtain ⟨v, k1, k2⟩ := G1.rel i o h'
              refine ⟨v, k1, ?_⟩
              cases o with
              | lf w =>
                cases k2 with
                | lf r => exact .lf (RW.evo mk.evt r)
              | _ => cases this
            · rename_i hin
              have hw : (wipeE env' (own.map (·.2)))[i]? = some (some o) := by rw [wipeE_get, if_neg hin]; exact h
              obtain ⟨v, k1, k2⟩ := G'.rel i o hw
              refine ⟨v, ?_, toF k2⟩
              rw [wipe_get] at k1
              split at k1
              · cases k1
              · exact k1
          · cases t : τ a with
            | none =>
              rw [ωt_none t] at h
              obtain ⟨r, q, k1, k2⟩ := G'.root a p h
              exact ⟨r, q, k1, by omega⟩
            | some p' =>
              rw [ωt_some t] at h
              cases h
              obtain ⟨q, k⟩ := (mk.own a p t).2.2.2
              exact ⟨B, q, k, by omega⟩
          · have t : τ a = none := by
              cases t : τ a with
              | none => rfl
              | some p => have k := (mk.own a p t).1; rw [G'.wf a h] at k; cases k
            rw [ωt_none t]; exact G'.wf a h
        · exact .lst (ωt_some hτ) hDx hal racc
  · exact h1.elim
theorem vo_lc {scope : Scope} {own : List (Str × Nat)} {fi : En → Rs (List PyData)} {g : PyData → En → Option En} {tt : En → Rs Bool} (hc : X.calm = true) (hN : X.N.Nodup) (hi : VI X W q1 tg iter fi) (ok : BlkOk X.N X.env.scope scope own)
    (hg : ∀ (s : Shared) (H : Hp) (C : Addr) (cl : List (Str × Addr)) (fp : List Addr), VG (X.blk s H scope (compEnvC scope cl C X.env) fp) (fun j => decide (j ∉ own.map (·.2))) tg g)
    (ht : ∀ (s : Shared) (H : Hp) (C : Addr) (cl : List (Str × Addr)) (fp : List Addr), VTs (X.blk s H scope (compEnvC scope cl C X.env) fp) W0 q2 ifs tt)
    (he : ∀ (s : Shared) (H : Hp) (C : Addr) (cl : List (Str × Addr)) (fp : List Addr), VO (X.blk s H scope (compEnvC scope cl C X.env) fp) W0 elt fe) (hs : ∀ x, foldedSetIterable iter X.env x = pure x := by intro _; rfl) :
    VO X W (.ListComp elt [⟨tg, iter, ifs, 0⟩] scope pos) (fLcO fi (own.map (·.2)) g tt fe) := by
  obtain ⟨wi, pi, se⟩ := lco_seo (W := W) (q2 := q2) (g := g) (tt := tt) (fe := fe) (own := own) hi
  exact ⟨_, pe_lc (g := gOf X.K (fun j => decide (j ∉ own.map (·.2))) g) (tt := tOfT X.K X.mg W0 q2 tt) (te := tOfO X.K X.mg W0 fe) hc hN pi ok (fun s H C cl fp => (hg s H C cl fp).canon) (fun s H C cl fp => (ht s H C cl fp).canon) (fun s H C cl fp => (he s H C cl fp).canon) hs, se⟩
/-- a name gets a thing of its own -/
theorem ss_setO {i : Nat} {te : TE} {fo : En → Rs O} (s : SEO K mg W te fo) (hk : kp i = false) : SS K mg W kp (tAsg te (gName i)) (fSetO i fo) := by
  intro B ω σ H env D G z
  refine s B ω σ H env _ G (SPost.bindO z fun o e _ ω1 H1 v ev G1 r h1 => ?_)
  have hlen : e.length ≤ B := by rw [← G1.len, G.len]; exact G.nB
  by_cases hil : i < e.length
  · refine h1 (fun a => match ω1 a with
      | .fr => .fr
      | .out => .out
      | .mine [] => .fr
      | .mine (r :: q) => if r = B then .mine (i :: q) else .mine (r :: q)) _ H1 ⟨fun a o y z => ?_, fun a o y z => ?_, fun a z => ?_, ev.frz⟩ (.set hk) ⟨fun j o' y => ?_, fun a p z => ?_, fun a z => ?_, by rw [List.length_set]; exact hlen, by rw [List.length_set, List.length_set]; exact G1.len⟩
    · obtain ⟨k1, k2⟩ := ev.fr a o y z
      exact ⟨by simp only [k1], k2⟩
    · obtain ⟨k1, k2⟩ := ev.out a o y z
      exact ⟨by simp only [k1], k2⟩
    · split at z
      · cases z
      · rename_i k; exact ev.back a k
      · cases z
      · split at z <;> cases z
    · by_cases hj : j = i
      · subst hj
        rw [List.getElem?_set_self hil] at y
        cases y
        refine ⟨v, List.getElem?_set_self (by rw [G1.len]; exact hil), r.tr [j] (fun a x q z y => ⟨?_, y⟩) fun a x y z => ⟨by simp only [z], y⟩⟩
        rw [show ω1 a = .mine (B :: q) from z]
        simp only [if_true]
        rfl
      · rw [List.getElem?_set_ne (Ne.symm hj)] at y
        obtain ⟨u, k1, k2⟩ := G1.rel j o' y
        refine ⟨u, by rw [List.getElem?_set_ne (Ne.symm hj)]; exact k1, k2.tr [j] (fun a x q z y => ⟨?_, y⟩) fun a x y z => ⟨by simp only [z], y⟩⟩
        have hjB : j ≠ B := by
          have := (List.getElem?_eq_some_iff.mp (by assumption : e[j]? = some (some o'))).1
          omega
        rw [show ω1 a = .mine (j :: q) from z]
        simp only [if_neg hjB]
        rfl
    · split at z
      · cases z
      · cases z
      · cases z
      · rename_i r' q' k
        obtain ⟨r2, q2, k1, k2⟩ := G1.root a _ k
        cases k1
        split at z
        · cases z; exact ⟨i, _, rfl, Nat.lt_of_lt_of_le hil hlen⟩
        · cases z; exact ⟨_, _, rfl, by omega⟩
    · simp only [G1.wf a z]
  · obtain ⟨ω2, d, dm, G2⟩ := G1.drop hlen
    refine h1 ω2 _ H1 (ev.trans d.evo) (.set hk) ?_
    have e1 : e.set i (some o) = e := List.set_eq_of_length_le (by omega)
    have e2 : σ.set i (some v) = σ := List.set_eq_of_length_le (by rw [G1.len]; omega)
    rw [e1, e2]
    exact G2
theorem vs_setLcO {i : Nat} {y : Str} {py spos : Pos} {scope : Scope} {own : List (Str × Nat)} {fi : En → Rs (List PyData)} {g : PyData → En → Option En} {tt : En → Rs Bool} (hc : X.calm = true) (hN : X.N.Nodup) (hi : VI X W q1 tg iter fi) (ok : BlkOk X.N X.env.scope scope own)
    (hg : ∀ (s : Shared) (H : Hp) (C : Addr) (cl : List (Str × Addr)) (fp : List Addr), VG (X.blk s H scope (compEnvC scope cl C X.env) fp) (fun j => decide (j ∉ own.map (·.2))) tg g)
    (ht : ∀ (s : Shared) (H : Hp) (C : Addr) (cl : List (Str × Addr)) (fp : List Addr), VTs (X.blk s H scope (compEnvC scope cl C X.env) fp) W0 q2 ifs tt)
    (he : ∀ (s : Shared) (H : Hp) (C : Addr) (cl : List (Str × Addr)) (fp : List Addr), VO (X.blk s H scope (compEnvC scope cl C X.env) fp) W0 elt fe) (hy : X.N[i]? = some y) (hyl : X.env.scope.names.lookup y = some .local) (hk : kp i = false := by rfl)
    (hsw : swapsWith (.ListComp elt [⟨tg, iter, ifs, 0⟩] scope pos) (some (.Name y py)) spos.line X.env = pure true) (hs : ∀ x, foldedSetIterable iter X.env x = pure x := by intro _; rfl) :
    VS X W kp (.Assign [.Name y py] (.ListComp elt [⟨tg, iter, ifs, 0⟩] scope pos) spos) (fSetO i (fLcO fi (own.map (·.2)) g tt fe)) := by
  obtain ⟨wi, pi, se⟩ := lco_seo (W := W) (q2 := q2) (g := g) (tt := tt) (fe := fe) (own := own) hi
  exact ⟨_, ps_setLc (g := gOf X.K (fun j => decide (j ∉ own.map fun x : Str × Nat => x.2)) g) (tt := tOfT X.K X.mg W0 q2 tt) (te := tOfO X.K X.mg W0 fe) hc hN hy hyl hsw pi ok (fun s H C cl fp => (hg s H C cl fp).canon) (fun s H C cl fp => (ht s H C cl fp).canon) (fun s H C cl fp => (he s H C cl fp).canon) hs, ss_setO se hk⟩
/-! ### a thing of its own, frozen: nobody changes it any more -/
def fFz (f : En → Rs O) : En → Rs Vl := fun env => (f env).bind fun o e => match o.er with
  | some w => .ok (.lf w) e
  | none => .bad
theorem VO.vef (h : VO X W e fe) : VE X W false e (fFz fe) := by
  obtain ⟨t, p, s⟩ := h.ex
  refine ⟨_, p, ⟨fun hq => (nomatch hq), fun B ω σ H env Q G z => s B ω σ H env Q G ?_⟩⟩
  unfold fFz at z
  cases y : fe env with
  | bad => rw [y] at z; exact z
  | ex c e => rw [y] at z; exact z
  | ok o e =>
    rw [y] at z
    dsimp only [Rs.bind_ok] at z
    intro ω' H' v ev G' r
    have hl : e.length ≤ B := by rw [← G'.len, G.len]; exact G.nB
    cases ho : o.er with
    | none => rw [ho] at z; exact z.elim
    | some w =>
      rw [ho] at z
      dsimp only at z
      refine z (fun a => match ω' a with
        | .fr => .fr
        | .out => .out
        | .mine [] => .fr
        | .mine (r :: q) => if r = B then .fr else .mine (r :: q)) H' ⟨fun a o y z => ?_, fun a o y z => ?_, fun a z => ?_, ev.frz⟩ (fun hq => nomatch hq) ⟨fun i o e => ?_, fun a p e => ?_, fun a e => ?_, hl, G'.len⟩ v ?_
      · obtain ⟨k1, k2⟩ := ev.fr a o y z
        exact ⟨by simp only [k1], k2⟩
      · obtain ⟨k1, k2⟩ := ev.out a o y z
        exact ⟨by simp only [k1], k2⟩
      · split at z
        · cases z
        · rename_i k; exact ev.back a k
        · cases z
        · split at z <;> cases z
      · obtain ⟨u, k1, k2⟩ := G'.rel i o e
        have hi : i < B := Nat.lt_of_lt_of_le (List.getElem?_eq_some_iff.mp e).1 hl
        refine ⟨u, k1, k2.tr [i] (fun a x q z y => ⟨?_, y⟩) fun a x y z => ⟨by simp only [z], y⟩⟩
        rw [show ω' a = .mine (i :: q) from z]
        simp only [if_neg (show i ≠ B by omega)]
        rfl
      · split at e
        · cases e
        · cases e
        · cases e
        · rename_i r' q' k
          obtain ⟨r2, q2, k1, k2⟩ := G'.root a _ k
          cases k1
          split at e
          · cases e
          · cases e; exact ⟨_, _, rfl, by omega⟩
      · simp only [G'.wf a e]
      · exact r.frz w ho (fun a z k => by rw [show ω' a = .mine (B :: z) from k]; simp) fun a k => by rw [k]
end
end MV
set_option Elab.async false
set_option linter.all false
set_option maxRecDepth 100000
set_option maxHeartbeats 4000000
namespace MV
open PySem PySem.Spec PyProof.Rows L2
section
variable {X : Cx} {W : WX} {kp : Nat → Bool} {q q1 q2 q3 m : Bool} {e a b c tg iter elt o i : Expr} {es rest ifs : List Expr} {pos tpos : Pos} {f fa fb fc fe fo fi : En → Rs Vl} {K : PySem.W.Frag} {mg : Str → Option Value}
/-! ### x op= e -/
def fAug (i : Nat) (g : G2) (fe : En → Rs Vl) : En → Rs Fl := fun env => match env[i]? with
  | some (some (.lf w)) => (fe env).bind fun y e => (match g (.lf w) y with
    | some z => .ok .nx (e.set i (some (.lf z)))
    | none => .bad)
  | _ => .bad
theorem vs_aug {i : Nat} {x : Str} {pos' : Pos} {op : Operator} {r : R2} {g : G2} (ho : OpR X (inplaceOp op) r) (hs : OpS X.K r g) (hN : X.N.Nodup) (hi : X.N[i]? = some x) (hx : Loc X.env.scope x) (h : VE X W q e fe) (hk : kp i = false := by rfl)
    (hf : X.fn x = true ∨ X.env.scope.names.lookup x = some .local := by first | exact .inl rfl | exact .inr rfl | assumption) : VS X W kp (.AugAssign (.Name x pos') op e pos) (fAug i g fe) := by
  obtain ⟨t, p, s⟩ := h.ex
  refine ⟨_, ps_aug (ti := r) hN hi hx p ho hf, fun B ω σ H env D G z => ?_⟩
  unfold fAug at z
  split at z
  · rename_i w h0
    obtain ⟨v, e1, rv0⟩ := G.rel i _ h0
    cases rv0 with
    | lf rv0 =>
      refine ⟨v, e1, s.run B ω σ H env _ G ((SPost.bindE z).imp fun y e ω1 H1 _ ev qu G1 h1 => fun u ru => ?_)⟩
      split at h1
      · rename_i z hz
        exact hs B ω1 σ H1 e v u (.lf w) y z _ G1 (RW.evo ev rv0) ru hz fun ω2 H2 v2 qu2 G2 r2 => h1 ω2 _ H2 qu2.evo (.set hk) (G2.setLf r2)
      · exact h1.elim
  · exact z.elim
def gAug : G2 := gOr (gI (fun _ _ => true) fun i j => .int (i + j)) gCatS
/-! ### clear -/
def fClr (i : Nat) : En → Rs Fl := fun env => match env[i]? with
  | some (some (.lst os)) => .ok .nx (env.set i (some (.lst [])))
  | _ => .bad
theorem vs_clr {i : Nat} {x : Str} {p1 apos cpos : Pos} (hN : X.N[i]? = some x := by rfl) (hv : Vis X.env.scope x := by first | exact Or.inl rfl | exact Or.inr (Or.inl rfl) | exact Or.inr (Or.inr rfl)) (hd : (x == ("__debug__" : Str)) = false := by decide)
    (hcd : (x == ("__classdict__" : Str)) = false := by decide) (hline : (apos.endLine == cpos.line) = true := by rfl)
    (hs : swapsWith (.Call (.Attribute (.Name x p1) "clear" apos) [] [] cpos) none pos.line X.env = pure false := by rfl)
    (hb : attributeBase (.Name x p1) "clear" X.env (eval (.Name x p1) X.env) = eval (.Name x p1) X.env := by rfl) :
    VS X W kp (.Expr (.Call (.Attribute (.Name x p1) "clear" apos) [] [] cpos) pos) (fClr i) := by
  refine ⟨_, ps_expr (pe_bm0 PySem.F.plainAttrs_list PySem.F.slot_list_clear PySem.F.type_list_clear mt_clear (pe_var hN hv hd hcd) hb hline) hs, fun B ω σ H env D G z => ?_⟩
  unfold fClr at z
  split at z
  · rename_i os h0
    obtain ⟨v, e1, rv0⟩ := slot_rv G h0
    obtain ⟨a, vs, rfl, hH, hl, hput⟩ := lst_put (os' := []) G rv0
    obtain ⟨ev2, G2⟩ := hput [] rfl fun j v' o' y1 y2 => by simp at y1
    exact ⟨_, e1, ty_list rv0, a, vs, rfl, rfl, hH, z ω σ _ ev2 (.refl _ _) G2⟩
  · exact z.elim
/-! ### xs[::-1] -/
def fRvL (f : En → Rs Vl) : En → Rs Vl := fun env => (f env).bind fun x e => match x.items with
  | some ws => .ok (.lf (.list ws.reverse)) e
  | none => .bad
theorem ve_rvL {k : Nat} {p1 p2 p3 : Pos} (h : VE X W q e f) : VE X W q (.Subscript e (.Slice none none (some (.UnaryOp .USub (.Constant (.int 1) k p1) p2)) p3) pos) (fRvL f) := by
  obtain ⟨t, p, s⟩ := h.ex
  refine ⟨_, pe_revL p, ⟨fun hq env x e z => ?_, fun B ω σ H env Q G z => s.run B ω σ H env _ G ((EPost.bind (q1 := q) (q2 := true) (by rw [Bool.and_true]; exact z)).imp fun x e ω1 H1 _ ev qu G1 h1 => fun v rv => ?_)⟩⟩
  · obtain ⟨a, e1, z1, z2⟩ := Rs.bind_st (env := env) z
    split at z2 <;> cases z2
    exact s.st hq _ _ _ z1
  · split at h1
    · rename_i ws hw
      obtain ⟨a, vs, rfl, hS, r⟩ := rv.items hw
      refine ⟨a, vs, rfl, hS, fun D hD => h1 ω1 _ (Quiet.alloc hD).evo (fun _ => .alloc hD) (G1.alloc hD) _ (RW.newL G1 hD ⟨by simp [r.1], fun j v w y1 y2 => ?_⟩)⟩
      have hlt : j < vs.length := by
        have := (List.getElem?_eq_some_iff.mp y1).1
        simpa using this
      rw [List.getElem?_reverse hlt] at y1
      rw [List.getElem?_reverse (by rw [← r.1]; exact hlt), ← r.1] at y2
      exact r.2 _ v w y1 y2
    · exact h1.elim
/-! ### a frozen thing where one of its own is wanted -/
def fLfO (f : En → Rs Vl) : En → Rs O := fun env => (f env).bind fun x e => match x with
  | .lf w => .ok (.lf w) e
  | .pl _ _ => .bad
theorem VE.vo (h : VE X W q e f) : VO X W e (fLfO f) := by
  obtain ⟨t, p, s⟩ := h.ex
  refine ⟨_, p, fun B ω σ H env Q G z => s.run B ω σ H env _ G ((OPost.bindA (q := q) z).imp fun x e ω1 H1 _ ev qu G1 h1 => fun v rv => ?_)⟩
  cases x with
  | lf w => exact h1 ω1 H1 v (.refl _ _) G1.up (.lf rv)
  | pl o up => exact h1.elim
/-! ### t + u -/
def gCatT : G2 := fun a b => match a.titems, b.titems with
  | some xs, some ys => if xs.length + ys.length ≤ sizeLine then some (.tuple (xs ++ ys)) else none
  | _, _ => none
theorem ops_catT : OpS K (rCatA K) gCatT := by
  intro B ω σ H env x y a b z Q G r1 r2 e q
  unfold gCatT at e
  split at e
  · rename_i xs ys h1 h2
    split at e
    · rename_i hl
      cases e
      have t1 : a = .lf (.tuple xs) := by
        cases a with
        | lf w => cases w <;> first | (cases h1; rfl) | cases h1
        | pl o up => cases h1
      have t2 : b = .lf (.tuple ys) := by
        cases b with
        | lf w => cases w <;> first | (cases h2; rfl) | cases h2
        | pl o up => cases h2
      obtain ⟨a1, vs, rfl, s1, w1⟩ := r1.titems h1
      obtain ⟨a2, us, rfl, s2, w2⟩ := r2.titems h2
      subst t1; subst t2
      refine ⟨a1, a2, vs, us, rfl, rfl, s1, s2, by rw [w1.1, w2.1]; exact hl, fun hx => ?_, fun hx hy => ?_, fun hx hy p hp => ?_⟩
      · have : xs = [] := List.length_eq_zero_iff.mp (by rw [← w1.1, hx]; rfl)
        subst this
        exact q ω H _ (.refl _ _) G r2
      · have : ys = [] := List.length_eq_zero_iff.mp (by rw [← w2.1, hy]; rfl)
        subst this
        exact q ω H _ (.refl _ _) G (by rw [List.append_nil]; exact r1)
      · exact q ω _ _ (.alloc hp) (G.alloc hp) (RW.newT G hp (w1.append w2))
    · cases e
  · cases e
/-! ### [..] * n -/
def fRep (q2 : Bool) (fs : En → Rs (List Vl)) (fb : En → Rs Vl) : En → Rs Vl := fun env => (fs env).bind fun xs e => match vlfs xs with
  | some ws => if ws.length ≤ sizeLine then (fb e).bind fun y e' => (match y with
    | .lf (.int k) => if k.natAbs < 2 ^ 62 ∧ ws.length * k.toNat ≤ sizeLine then .ok (.lf (.list (List.replicate k.toNat ws).flatten)) e' else .bad
    | _ => .bad) else .bad
  | none => .bad
theorem rep_rws {ω : Om} {H : Hp} {vs : List V} {ws : List PyData} (h : RWs K ω H vs ws) : ∀ n : Nat, RWs K ω H (List.replicate n vs).flatten (List.replicate n ws).flatten
  | 0 => RWs.nil
  | n + 1 => by
    rw [List.replicate_succ, List.replicate_succ, List.flatten_cons, List.flatten_cons]
    exact h.append (rep_rws h n)
theorem ve_rep {p : Pos} {fs : En → Rs (List Vl)} (ha : VA X W q1 es fs) (hb : VE X W q2 b fb) : VE X W (q1 && q2) (.BinOp (.List es p) .Mult b pos) (fRep q2 fs fb) := by
  obtain ⟨ta, pa, sa⟩ := ha.ex
  obtain ⟨tb, pb, sb⟩ := hb.ex
  refine ⟨_, pe_op op_rep (pe_lst pa) pb, ⟨fun hq env x e z => ?_, fun B ω σ H env Q G z => sa.run B ω σ H env _ G ((EPost.bind z).imp fun xs e ω1 H1 _ ev qu G1 h1 => fun vs rv => ?_)⟩⟩
  · obtain ⟨h1, h2⟩ := Bool.and_eq_true_iff.mp hq
    obtain ⟨a, e1, z1, z2⟩ := Rs.bind_st (env := env) z
    have r1 := sa.st h1 _ _ _ z1
    split at z2
    · split at z2
      · obtain ⟨y, e2, z3, z4⟩ := Rs.bind_st (env := env) z2
        have r2 := sb.st h2 _ _ _ z3
        split at z4
        · split at z4 <;> cases z4
          rw [r2, r1]
        · cases z4
      · cases z2
    · cases z2
  · split at h1
    · rename_i ws hw
      split at h1
      · rename_i hl
        have rr := vlfs_rws hw rv
        refine ⟨by rw [rr.1]; exact hl, fun D hD => ?_⟩
        have G2 := G1.alloc (u := .lst vs) hD
        have q0 : Quiet ω1 H1 ω1 (upd H1 D (.lst vs)) := .alloc hD
        refine sb.run B ω1 σ _ e _ G2 ?_
        have h1' := EPost.bind (q1 := q2) (q2 := true) (by rw [Bool.and_true]; exact h1)
        have fD : ω1 D = .fr := G1.wf D (.of hD)
        cases y : fb e with
        | bad => rw [y] at h1'; exact h1'
        | ex c e' => rw [y] at h1'; exact fun ω2 H2 C hC ev2 G2 => h1' ω2 H2 C hC (q0.evo.trans ev2) G2
        | ok y e' =>
          rw [y] at h1'
          intro ω2 H2 ev2 qu2 G2 u ru
          have h2 := h1' ω2 H2 (q0.evo.trans ev2) (fun t => q0.trans (qu2 t)) G2
          dsimp only at h2
          split at h2
          · rename_i k
            split at h2
            · rename_i hk
              cases (show RW X.K ω2 H2 u (.int k) from ru)
              obtain ⟨_, hH2⟩ := ev2.fr D _ upd_same fD
              refine ⟨D, k, vs, rfl, rfl, hH2, by omega, by omega, by rw [rr.1]; exact hk.2, fun p hp => h2 ω2 _ (Quiet.alloc hp).evo (fun _ => .alloc hp) (G2.alloc hp) _ (RW.newL G2 hp (rep_rws (rr.evo (q0.evo.trans ev2)) _))⟩
            · exact h2.elim
          · exact h2.elim
      · exact h1.elim
    · exact h1.elim
/-- += -/
def rAugA : R2 := fun x y H Q => rI0 (fun i j => .int (i + j)) x y H Q ∨ rCatS x y H Q
theorem op_augA : OpR X (inplaceOp .Add) rAugA := OpR.or iop_add iop_add_str
theorem ops_augA : OpS K rAugA gAug := OpS.or (ops_rI0 fun _ _ _ _ => .int _) ops_catS
/-! ### things of one's own lent to a def that answers with a plain thing -/
def scalW : PyData → Bool
  | .none => true
  | .bool _ => true
  | .int _ => true
  | .str _ => true
  | _ => false
def vers : List Vl → Option (List PyData)
  | [] => some []
  | x :: xs => match x.er, vers xs with
    | some w, some ws => some (w :: ws)
    | _, _ => none
def fCallB (n : Nat) (F : List O → Rs O) (fs : En → Rs (List Vl)) : En → Rs Vl := fun env => (fs env).bind fun xs e => match vers xs with
  | some ws => if ws.length = n then (match F (ws.map .lf) with
    | .ok (.lf w) _ => if scalW w then .ok (.lf w) e else .bad
    | .ex c _ => .ex c e
    | _ => .bad) else .bad
  | none => .bad
def ωs (ω : Om) : Om := fun a => match ω a with
  | .out => .out
  | _ => .fr
theorem RV.lent {ω : Om} {σ : L2.St} {H : Hp} {v : V} {x : Vl} {w : PyData} (h : RV K ω σ H v x) (e : x.er = some w) : RW K (ωs ω) H v w := by
  cases x with
  | lf w' =>
    cases e
    exact RW.tr (fun a x _ z => ⟨by unfold ωs; rw [z], by assumption⟩) h
  | pl o up =>
    obtain ⟨p, r, _⟩ := h
    exact r.frz w e (fun a z k => by unfold ωs; rw [k]) fun a k => by unfold ωs; rw [k]
theorem vers_rws {ω : Om} {σ : L2.St} {H : Hp} : ∀ {xs : List Vl} {ws : List PyData} {vs : List V}, vers xs = some ws → RVs K ω σ H vs xs → RWs K (ωs ω) H vs ws
  | [], ws, vs, h, r => by cases h; rw [r.nil_inv]; exact RWs.nil
  | x :: xs, ws, vs, h, r => by
    unfold vers at h
    split at h
    · rename_i w ws' h1 h2
      cases h
      obtain ⟨v, us, rfl, r1, r2⟩ := r.cons_inv
      exact RWs.cons (r1.lent h1) (vers_rws h2 r2)
    · cases h
theorem RW.scal {ω ω' : Om} {H H' : Hp} {v : V} {w : PyData} (h : RW K ω H v w) (hs : scalW w = true) : RW K ω' H' v w := by
  cases h with
  | non => exact .non
  | bl b => exact .bl b
  | int i => exact .int i
  | str x => exact .str x
  | lst => cases hs
  | tup => cases hs
/-- what was lent comes back -/
theorem lent_back {B : Nat} {ω ω' : Om} {σ : L2.St} {H H' : Hp} {env : En} (G : Good K B ω σ H env) (ev : Evo (ωs ω) H ω' H') (hwf : ∀ a, Nw (H' a) → ω' a = .fr) : ∃ ω2, Quiet ω H ω2 H' ∧ Good K B ω2 σ H' env := by
  have keep : ∀ a o, H a = some o → H' a = some o := fun a o e => by
    cases z : ω a with
    | out => exact (ev.out a o e (by unfold ωs; rw [z])).2
    | fr => exact (ev.fr a o e (by unfold ωs; rw [z])).2
    | mine p => exact (ev.fr a o e (by unfold ωs; rw [z])).2
  have qu : Quiet ω H (fun a => if (H a).isSome then ω a else .fr) H' := by
    refine ⟨fun a o e => ⟨keep a o e, by simp [e]⟩, fun a z => ?_⟩
    split at z
    · exact z
    · cases z
  refine ⟨_, qu, fun i o e => ?_, fun a p z => ?_, fun a z => ?_, G.nB, G.len⟩
  · obtain ⟨v, h1, h2⟩ := G.rel i o e
    exact ⟨v, h1, h2.quiet qu⟩
  · split at z
    · exact G.root a p z
    · cases z
  · split
    · rename_i h
      obtain ⟨o, e⟩ := Option.isSome_iff_exists.mp h
      rw [keep a o e] at z; exact G.wf a (by rw [e]; exact z)
    · rfl
theorem ve_callB {x : Str} {p : Pos} {k : Nat} {fa : Addr} {fd : FuncData} {ps : List Str} {F : List O → Rs O} {n : Nat} {fs : En → Rs (List Vl)} (tk : Takes X W) (Fn : FnOk X.prog X.w X.K X.mg X.base (L2.CX X.prog X.w) k fa fd ps (spM X.K X.mg n F)) (hr : Room k X.A) (hg : Gl X x) (hm : X.mg x = some (.ref fa)) (hk : PySem.W.keepIn X.K (.ref fa) = true) (hb : Binds X.K fd ps [])
    (ha : VA X W q (e :: es) fs) (hdb : (x == ("__debug__" : Str)) = false := by decide) (he : starEach (e :: es) X.env = (false, eval e X.env) :: starEach es X.env := by rfl) (hpl : (backTo pos (starEach es X.env)).any (·.1) = false := by rfl) :
    VE X W q (.Call (.Name x p) (e :: es) [] pos) (fCallB n F fs) := by
  obtain ⟨ta, pa, sa⟩ := ha.ex
  refine ⟨_, pe_callS (E := WE W) Fn hr hg hm hk hb (fun σ => passAt tk σ) pa hdb he hpl, ⟨fun hq env x e z => ?_, fun B ω σ H env Q G z => sa.run B ω σ H env _ G ((EPost.bind (q1 := q) (q2 := true) (by rw [Bool.and_true]; exact z)).imp fun xs e ω1 H1 _ ev qu G1 h1 => fun vs rv => ?_)⟩⟩
  · obtain ⟨a, e1, z1, z2⟩ := Rs.bind_st (env := env) z
    have r1 := sa.st hq _ _ _ z1
    split at z2
    · split at z2
      · split at z2
        · split at z2 <;> cases z2
          exact r1
        · cases z2
        · cases z2
      · cases z2
    · cases z2
  · show spM X.K X.mg n F vs H1 Q (WE W σ)
    split at h1
    · rename_i ws hw
      have rr := vers_rws hw rv
      have hro : ∀ (j : Nat) v o, vs[j]? = some v → (ws.map O.lf)[j]? = some o → RO X.K (ωs ω1) H1 [j] v o := fun j v o y1 y2 => by
        rw [List.getElem?_map] at y2
        cases t : ws[j]? with
        | none => rw [t] at y2; cases y2
        | some w => rw [t] at y2; cases y2; exact .lf (rr.2 j v w y1 t)
      have nom : ∀ a p, ωs ω1 a = .mine p → ∃ r q, p = r :: q ∧ r < n := fun a p z => by
        unfold ωs at z; split at z <;> cases z
      have wf : ∀ a, Nw (H1 a) → ωs ω1 a = .fr := fun a z => by unfold ωs; rw [G1.wf a z]
      by_cases hn : ws.length = n
      case neg => rw [if_neg hn] at h1; exact h1.elim
      rw [if_pos hn] at h1
      have hlen : (ws.map O.lf).length = n := by rw [List.length_map]; exact hn
      split at h1
      · rename_i w ps' hf
        split at h1
        · rename_i hs
          refine ⟨ωs ω1, ws.map .lf, by rw [rr.1, ← hlen, List.length_map], hlen, hro, nom, wf, ?_⟩
          rw [hf]
          intro ω' H' v B' ev' _ _ hwf r' _
          obtain ⟨ω2, qu2, G2⟩ := lent_back G1 ev' hwf
          cases r' with
          | lf r' => exact h1 ω2 H' qu2.evo (fun _ => qu2) G2 v (RW.scal r' hs)
        · exact h1.elim
      · rename_i c ps' hf
        refine ⟨ωs ω1, ws.map .lf, by rw [rr.1, ← hlen, List.length_map], hlen, hro, nom, wf, ?_⟩
        rw [hf]
        intro ω' H' C B' hC ev' _ _ hwf _
        obtain ⟨ω2, qu2, G2⟩ := lent_back G1 ev' hwf
        exact h1 ω2 H' C hC qu2.evo G2
      · exact h1.elim
    · exact h1.elim
/-! ### a name's own thing is handed on -/
def fMvO (i : Nat) : En → Rs O := fun env => match env[i]? with
  | some (some o) => .ok o (env.set i none)
  | _ => .bad
theorem vo_mv {i : Nat} {x : Str} (hN : X.N[i]? = some x := by rfl) (hv : Vis X.env.scope x := by first | exact Or.inl rfl | exact Or.inr (Or.inl rfl) | exact Or.inr (Or.inr rfl)) (hd : (x == ("__debug__" : Str)) = false := by decide)
    (hcd : (x == ("__classdict__" : Str)) = false := by decide) : VO X W (.Name x pos) (fMvO i) := by
  refine ⟨_, pe_var hN hv hd hcd, fun B ω σ H env Q G h => ?_⟩
  unfold fMvO at h
  split at h
  · rename_i o e
    obtain ⟨v, e1, e2⟩ := G.rel i _ e
    have hi : i < env.length := (List.getElem?_eq_some_iff.mp e).1
    have hiB : i < B := Nat.lt_of_lt_of_le hi G.nB
    refine ⟨v, e1, h (fun a => match ω a with
      | .fr => .fr
      | .out => .out
      | .mine [] => .fr
      | .mine (r :: q) => if r = i then .mine (B :: q) else .mine (r :: q)) H v ⟨fun a o y z => ⟨by simp only [z], y⟩, fun a o y z => ⟨by simp only [z], y⟩, fun a z => ?_, fun _ _ _ e => e⟩ ⟨fun j o' y => ?_, fun a p z => ?_, fun a z => by simp only [G.wf a z], by rw [List.length_set]; exact Nat.le_succ_of_le G.nB, by rw [List.length_set]; exact G.len⟩ ?_⟩
    · split at z
      · cases z
      · assumption
      · cases z
      · split at z <;> cases z
    · by_cases hj : j = i
      · subst hj
        rw [List.getElem?_set_self hi] at y
        cases y
      · rw [List.getElem?_set_ne (Ne.symm hj)] at y
        obtain ⟨u, k1, k2⟩ := G.rel j o' y
        refine ⟨u, k1, k2.tr [j] (fun a x q z y => ⟨?_, y⟩) fun a x y z => ⟨by simp only [z], y⟩⟩
        rw [show ω a = .mine (j :: q) from z]
        simp only [if_neg hj]
        rfl
    · split at z
      · cases z
      · cases z
      · cases z
      · rename_i r' q' k
        obtain ⟨r2, q2, k1, k2⟩ := G.root a _ k
        cases k1
        split at z
        · cases z; exact ⟨B, _, rfl, Nat.lt_succ_self _⟩
        · cases z; exact ⟨_, _, rfl, Nat.lt_succ_of_lt k2⟩
    · refine e2.tr [B] (fun a x q z y => ⟨?_, y⟩) fun a x y z => ⟨by simp only [z], y⟩
      rw [show ω a = .mine (i :: q) from z]
      simp only [if_true]
      rfl
  · exact h.elim
/-! ### f([..], ..): a new list is handed in, and changed there -/
def fCallT (n : Nat) (F : List O → Rs O) (fs1 fs2 : En → Rs (List Vl)) : En → Rs O := fun env => (fs1 env).bind fun xs e => match vlfs xs with
  | some ws1 => if ws1.length ≤ sizeLine then (fs2 e).bind fun ys e' => (match vlfs ys with
    | some ws2 => if ws2.length + 1 = n then (match F (.lst (ws1.map .lf) :: ws2.map .lf) with
      | .ok r _ => .ok r e'
      | .ex c _ => .ex c e'
      | .bad => .bad) else .bad
    | none => .bad) else .bad
  | none => .bad
def ωx (D : Addr) (ω : Om) : Om := fun a => if a = D then .mine [0] else match ω a with
  | .mine _ => .out
  | x => x
def ωy (B B' : Nat) (ω2 ω' : Om) : Om := fun a => match ω' a with
  | .out => ω2 a
  | .fr => .fr
  | .mine [] => .fr
  | .mine (r :: q) => if r = B' then .mine (B :: q) else .fr
theorem callT_back {B B' : Nat} {ω1 ω2 ω' : Om} {σ : L2.St} {H1 H2 H' : Hp} {env : En} {D : Addr} (hD : H1 D = none) (hl : env.length ≤ B) (ev : Evo (fun a => if a = D then .out else ω1 a) (upd H1 D u) ω2 H2) (G : Good K B ω2 σ H2 env) (oD : ω2 D = .out) (ev' : Evo (ωx D ω2) H2 ω' H') (hwf : ∀ a, Nw (H' a) → ω' a = .fr) :
    Evo ω1 H1 (ωy B B' ω2 ω') H' ∧ Good K (B + 1) (ωy B B' ω2 ω') σ H' env := by
  have xfr : ∀ a, ω2 a = .fr → ωx D ω2 a = .fr := fun a z => by
    have hne : a ≠ D := fun t => by rw [t, oD] at z; cases z
    unfold ωx; rw [if_neg hne, z]
  have xout : ∀ a, ω2 a = .out → a ≠ D → ωx D ω2 a = .out := fun a z hne => by unfold ωx; rw [if_neg hne, z]
  have xmine : ∀ a p, ω2 a = .mine p → ωx D ω2 a = .out := fun a p z => by
    have hne : a ≠ D := fun t => by rw [t, oD] at z; cases z
    unfold ωx; rw [if_neg hne, z]
  have yfr : ∀ a o, H2 a = some o → ω2 a = .fr → ωy B B' ω2 ω' a = .fr ∧ H' a = some o := fun a o e z => by
    obtain ⟨k1, k2⟩ := ev'.fr a o e (xfr a z)
    exact ⟨by unfold ωy; rw [k1], k2⟩
  have yout : ∀ a o, H2 a = some o → ω2 a = .out → a ≠ D → ωy B B' ω2 ω' a = .out ∧ H' a = some o := fun a o e z hne => by
    obtain ⟨k1, k2⟩ := ev'.out a o e (xout a z hne)
    exact ⟨by unfold ωy; rw [k1]; exact z, k2⟩
  have ymine : ∀ a o p, H2 a = some o → ω2 a = .mine p → ωy B B' ω2 ω' a = .mine p ∧ H' a = some o := fun a o p e z => by
    obtain ⟨k1, k2⟩ := ev'.out a o e (xmine a p z)
    exact ⟨by unfold ωy; rw [k1]; exact z, k2⟩
  refine ⟨⟨fun a o e z => ?_, fun a o e z => ?_, fun a z => ?_, fun a o u e => ev'.frz a o u (ev.frz a o u (by rw [upd_ne (ne_of_none e hD)]; exact e))⟩, fun i o e => ?_, fun a p z => ?_, fun a z => ?_, Nat.le_succ_of_le hl, G.len⟩
  · have hne := ne_of_none e hD
    obtain ⟨k1, k2⟩ := ev.fr a o (by rw [upd_ne hne]; exact e) (by simp [hne, z])
    exact yfr a o k2 k1
  · have hne := ne_of_none e hD
    obtain ⟨k1, k2⟩ := ev.out a o (by rw [upd_ne hne]; exact e) (by simp [hne, z])
    exact yout a o k2 k1 hne
  · unfold ωy at z
    split at z
    · rename_i k
      have k1 := ev'.back a k
      have hne : a ≠ D := fun t => by rw [t] at k1; unfold ωx at k1; simp at k1
      have := ev.back a z
      simpa [hne] using this
    · cases z
    · cases z
    · split at z <;> cases z
  · obtain ⟨v, h1, h2⟩ := G.rel i o e
    exact ⟨v, h1, h2.tr [i] (fun a x q z y => ymine a x _ y z) fun a x y z => yfr a x y z⟩
  · unfold ωy at z
    split at z
    · obtain ⟨r, q, k1, k2⟩ := G.root a p z
      exact ⟨r, q, k1, by omega⟩
    · cases z
    · cases z
    · split at z
      · cases z; exact ⟨B, _, rfl, Nat.lt_succ_self _⟩
      · cases z
  · unfold ωy; rw [hwf a z]
theorem vo_callT {x : Str} {p p1 : Pos} {k : Nat} {fa : Addr} {fd : FuncData} {ps : List Str} {F : List O → Rs O} {n : Nat} {es2 : List Expr} {fs1 fs2 : En → Rs (List Vl)} (tk : Takes X W) (Fn : FnOk X.prog X.w X.K X.mg X.base (L2.CX X.prog X.w) k fa fd ps (spM X.K X.mg n F)) (hr : Room k X.A) (hg : Gl X x) (hm : X.mg x = some (.ref fa)) (hk : PySem.W.keepIn X.K (.ref fa) = true) (hb : Binds X.K fd ps [])
    (ha : VA X W q1 es fs1) (ha2 : VA X W q2 es2 fs2) (hs : starEach (.List es p1 :: es2) X.env = (false, eval (.List es p1) X.env) :: starEach es2 X.env := by rfl) (hdb : (x == ("__debug__" : Str)) = false := by decide) (hpl : (backTo pos (starEach es2 X.env)).any (·.1) = false := by rfl) :
    VO X W (.Call (.Name x p) (.List es p1 :: es2) [] pos) (fCallT n F fs1 fs2) := by
  obtain ⟨ta, pa, sa⟩ := ha.ex
  obtain ⟨tb, pb, sb⟩ := ha2.ex
  refine ⟨_, pe_callS (E := WE W) Fn hr hg hm hk hb (fun σ => passAt tk σ) (pa_cons (pe_lst pa) pb hs) hdb hs hpl, fun B ω σ H env Q G z => sa.run B ω σ H env _ G ((OPost.bindA z).imp fun xs e ω1 H1 _ ev1 qu1 G1 h1 => fun vs rv => ?_)⟩
  split at h1
  · rename_i ws1 hw1
    split at h1
    · rename_i hsz
      have rr := vlfs_rws hw1 rv
      refine ⟨by rw [rr.1]; exact hsz, fun D hD => ?_⟩
      -- the new list is out while the others are made
      have evD : ∀ a o, H1 a = some o → a ≠ D := fun a o e => ne_of_none e hD
      have G2 : Good X.K B (fun a => if a = D then .out else ω1 a) σ (upd H1 D (.lst vs)) e := by
        refine ⟨fun i o h => ?_, fun a p h => ?_, fun a h => ?_, G1.nB, G1.len⟩
        · obtain ⟨v, k1, k2⟩ := G1.rel i o h
          refine ⟨v, k1, k2.tr [i] (fun a x q z y => ?_) fun a x y z => ?_⟩
          · exact ⟨by simp [evD a x y, z], by rw [upd_ne (evD a x y)]; exact y⟩
          · exact ⟨by simp [evD a x y, z], by rw [upd_ne (evD a x y)]; exact y⟩
        · by_cases hne : a = D
          · subst hne; simp at h
          · exact G1.root a p (by simpa [hne] using h)
        · by_cases hne : a = D
          · subst hne; rw [upd_same] at h; exact h.elim
          · rw [upd_ne hne] at h; simp [hne, G1.wf a h]
      have rr2 : RWs X.K (fun a => if a = D then .out else ω1 a) (upd H1 D (.lst vs)) vs ws1 := ⟨rr.1, fun i v w y1 y2 => (rr.2 i v w y1 y2).tr fun a x e z => ⟨by simp [evD a x e, z], by rw [upd_ne (evD a x e)]; exact e⟩⟩
      refine sb.run B _ σ _ e _ G2 ?_
      cases y : fs2 e with
      | bad => rw [y] at h1; exact h1
      | ex c e' =>
        rw [y] at h1
        intro ω2 H2 C hC ev2 G3
        -- the list is dropped
        refine h1 (fun a => if a = D then .fr else ω2 a) H2 C hC ⟨fun a o e z => ?_, fun a o e z => ?_, fun a z => ?_, fun a o u e => ev2.frz a o u (by rw [upd_ne (evD a _ e)]; exact e)⟩ ⟨fun i o e => ?_, fun a p z => ?_, fun a z => ?_, G3.nB, G3.len⟩
        · obtain ⟨k1, k2⟩ := ev2.fr a o (by rw [upd_ne (evD a o e)]; exact e) (by simp [evD a o e, z])
          exact ⟨by simp [evD a o e, k1], k2⟩
        · obtain ⟨k1, k2⟩ := ev2.out a o (by rw [upd_ne (evD a o e)]; exact e) (by simp [evD a o e, z])
          exact ⟨by simp [evD a o e, k1], k2⟩
        · by_cases hne : a = D
          · subst hne; simp at z
          · have := ev2.back a (by simpa [hne] using z); simpa [hne] using this
        · have oD : ω2 D = .out := (ev2.out D _ upd_same (by simp)).1
          obtain ⟨v, k1, k2⟩ := G3.rel i o e
          refine ⟨v, k1, k2.tr [i] (fun a x q z y => ?_) fun a x y z => ?_⟩
          · have hne : a ≠ D := fun t => by rw [t, oD] at z; cases z
            exact ⟨by simp [hne, z], y⟩
          · have hne : a ≠ D := fun t => by rw [t, oD] at z; cases z
            exact ⟨by simp [hne, z], y⟩
        · by_cases hne : a = D
          · subst hne; simp at z
          · exact G3.root a p (by simpa [hne] using z)
        · by_cases hne : a = D
          · simp [hne]
          · simp [hne, G3.wf a z]
      | ok ys e' =>
        rw [y] at h1
        dsimp only [Rs.bind_ok] at h1
        intro ω2 H2 ev2 qu2 G3 us ru
        obtain ⟨oD, hD2⟩ := ev2.out D _ upd_same (by simp)
        show spM X.K X.mg n F (.ref D :: us) H2 Q (WE W σ)
        split at h1
        · rename_i ws2 hw2
          split at h1
          · rename_i hn
            have r3 := vlfs_rws hw2 ru
            have toX : ∀ {v w}, RW X.K ω2 H2 v w → RW X.K (ωx D ω2) H2 v w := fun {v w} r => r.tr fun a x e z => by
              have hne : a ≠ D := fun t => by rw [t, oD] at z; cases z
              exact ⟨by unfold ωx; rw [if_neg hne, z], e⟩
            refine ⟨ωx D ω2, .lst (ws1.map .lf) :: ws2.map .lf, by simp [r3.1]; exact hn, by simp; exact hn, fun j v o y1 y2 => ?_, fun a p z => ?_, fun a z => ?_, ?_⟩
            · cases j with
              | zero =>
                simp at y1 y2
                subst y1; subst y2
                refine .lst (by unfold ωx; simp) hD2 (by simp [rr.1]) fun i v o y1 y2 => ?_
                rw [List.getElem?_map] at y2
                cases t : ws1[i]? with
                | none => rw [t] at y2; cases y2
                | some w => rw [t] at y2; cases y2; exact .lf (toX (RW.evo ev2 (rr2.2 i v w y1 t)))
              | succ j =>
                simp only [List.getElem?_cons_succ] at y1 y2
                rw [List.getElem?_map] at y2
                cases t : ws2[j]? with
                | none => rw [t] at y2; cases y2
                | some w => rw [t] at y2; cases y2; exact .lf (toX (r3.2 j v w y1 t))
            · unfold ωx at z
              split at z
              · cases z; exact ⟨0, [], rfl, by omega⟩
              · split at z
                · cases z
                · rename_i h; exact absurd z (h p)
            · unfold ωx
              have hne : a ≠ D := fun t => by rw [t, hD2] at z; exact z.elim
              rw [if_neg hne, G3.wf a z]
            · have hl : e'.length ≤ B := G3.nB
              cases hF : F (.lst (ws1.map .lf) :: ws2.map .lf) with
              | bad => rw [hF] at h1; exact h1
              | ok r ps' =>
                rw [hF] at h1
                intro ω' H' v B' ev' _ hroot hwf r' _
                obtain ⟨e5, G5⟩ := callT_back (B' := B') hD hl ev2 G3 oD ev' hwf
                refine h1 _ H' v e5 G5 (r'.tr [B] (fun a x q z y => ⟨?_, y⟩) fun a x y z => ⟨by unfold ωy; rw [z], y⟩)
                unfold ωy
                rw [show ω' a = .mine (B' :: q) from z]
                simp
              | ex c ps' =>
                rw [hF] at h1
                intro ω' H' C B' hC ev' _ hroot hwf _
                obtain ⟨e5, G5⟩ := callT_back (B' := B') hD hl ev2 G3 oD ev' hwf
                obtain ⟨ω6, ev6, _, G6⟩ := G5.drop1 hl
                exact h1 ω6 H' C hC (e5.trans ev6) G6
          · exact h1.elim
        · exact h1.elim
    · exact h1.elim
  · exact h1.elim
end
end MV
set_option Elab.async false
set_option linter.all false
set_option maxRecDepth 100000
set_option maxHeartbeats 4000000
namespace MV
open PySem PySem.Spec PyProof.Rows L2
/-! ### for v in x: the items of an own list are changed in their places -/
def vForM (i j : Nat) (ga : En → Rs Fl) : Nat → Nat → En → Rs Fl
  | 0, _, e => .ok .nx e
  | n + 1, k, e => match e[i]? with
    | some (some (.lst os)) => match os[k]? with
      | some o => match ga ((e.set i none).set j (some o)) with
        | .ok .nx e' => match e'[j]? with
          | some (some o') => vForM i j ga n (k + 1) ((e'.set j none).set i (some (.lst (os.set k o'))))
          | _ => .bad
        | _ => .bad
      | none => .bad
    | _ => .bad
def fForM (i j : Nat) (ga : En → Rs Fl) : En → Rs Fl := fun e => match e[i]? with
  | some (some (.lst os)) => if i ≠ j ∧ j < e.length then vForM i j ga os.length 0 e else .bad
  | _ => .bad
/-- whose an address is while the item k is out of its list -/
def ωi (i j k : Nat) (ω : Om) : Om := fun a => match ω a with
  | .mine (r :: q) => if r = i then (match q with
    | t :: q' => if t = k then .mine (j :: q') else .out
    | [] => .out) else if r = j then .fr else .mine (r :: q)
  | x => x
section
variable {K : PySem.W.Frag} {B i j k : Nat} {ω ω' : Om} {σ σ' : L2.St} {H H' : Hp} {env e' : En} {os : List O}
theorem ωi_fr {a : Addr} (h : ω a = .fr) : ωi i j k ω a = .fr := by unfold ωi; rw [h]
theorem ωi_out {a : Addr} (h : ω a = .out) : ωi i j k ω a = .out := by unfold ωi; rw [h]
theorem ωi_k {a : Addr} {q : List Nat} (h : ω a = .mine (i :: k :: q)) : ωi i j k ω a = .mine (j :: q) := by unfold ωi; rw [h]; simp
theorem ωi_rest {a : Addr} {q : List Nat} (h : ω a = .mine (i :: q)) (hq : ∀ q', q ≠ k :: q') : ωi i j k ω a = .out := by
  unfold ωi; rw [h]
  cases q with
  | nil => simp
  | cons t q' => simp; exact fun e => hq q' (by rw [e])
theorem ωi_else {a : Addr} {r : Nat} {q : List Nat} (h : ω a = .mine (r :: q)) (h1 : r ≠ i) (h2 : r ≠ j) : ωi i j k ω a = .mine (r :: q) := by unfold ωi; rw [h]; simp [h1, h2]
/-- the item k is taken out -/
theorem Good.out1 (G : Good K B ω σ H env) (hij : i ≠ j) (hj : j < env.length) (hi : env[i]? = some (some (.lst os))) {o : O} (ho : os[k]? = some o) : ∃ D vs v, σ[i]? = some (some (.ref D)) ∧ H D = some (.lst vs) ∧ vs.length = os.length ∧ vs[k]? = some v ∧ Good K B (ωi i j k ω) (σ.set j (some v)) H ((env.set i none).set j (some o)) := by
  obtain ⟨v0, k1, k2⟩ := G.rel i _ hi
  cases k2 with
  | @lst _ D vs _ e1 e2 l g =>
    have hk : k < vs.length := by rw [l]; exact (List.getElem?_eq_some_iff.mp ho).1
    refine ⟨D, vs, vs[k], k1, e2, l, by simp [hk], fun t o2 y => ?_, fun a p z => ?_, fun a z => ωi_fr (G.wf a z), by simp; exact G.nB, by simp; exact G.len⟩
    · by_cases ht : t = j
      · subst ht
        rw [List.getElem?_set_self (by simpa using hj)] at y
        cases y
        refine ⟨vs[k], List.getElem?_set_self (by rw [G.len]; exact hj), (g k _ _ (by simp [hk]) ho).tr [t] (fun a x q z y => ⟨?_, y⟩) fun a x y z => ⟨ωi_fr z, y⟩⟩
        exact ωi_k (by simpa using z)
      · rw [List.getElem?_set_ne (Ne.symm ht)] at y
        by_cases hti : t = i
        · subst hti
          rw [List.getElem?_set] at y
          split at y
          · split at y <;> cases y
          · rename_i hne; exact absurd rfl hne
        · rw [List.getElem?_set_ne (Ne.symm hti)] at y
          obtain ⟨u, h1, h2⟩ := G.rel t o2 y
          exact ⟨u, by rw [List.getElem?_set_ne (Ne.symm ht)]; exact h1, h2.tr [t] (fun a x q z y => ⟨ωi_else z hti ht, y⟩) fun a x y z => ⟨ωi_fr z, y⟩⟩
    · unfold ωi at z
      split at z
      · rename_i r q hz
        obtain ⟨r2, q2, k1, k2⟩ := G.root a _ hz
        cases k1
        split at z
        · split at z
          · split at z
            · cases z; exact ⟨j, _, rfl, Nat.lt_of_lt_of_le hj G.nB⟩
            · cases z
          · cases z
        · split at z
          · cases z
          · cases z; exact ⟨_, _, rfl, k2⟩
      · rename_i h
        exact absurd z (fun z => by
          obtain ⟨r, q, e, _⟩ := G.root a p z
          exact h r q (by rw [z, e]))
open Classical in
noncomputable def ωj (i j k : Nat) (ω ω' : Om) : Om := fun a => if (∃ q, ω a = .mine (i :: q) ∧ ∀ q', q ≠ k :: q') then ω a else match ω' a with
  | .mine (r :: q) => if r = j then .mine (i :: k :: q) else if r = i then .fr else .mine (r :: q)
  | x => x
/-- .. and laid back -/
theorem Good.back1 {v : V} {vs : List V} {D : Addr} {o' : O} (G : Good K B ω σ H env) (hij : i ≠ j) (hj : j < env.length) (hi : env[i]? = some (some (.lst os))) {o : O} (ho : os[k]? = some o) (hD : σ[i]? = some (some (.ref D))) (hH : H D = some (.lst vs)) (hv : vs[k]? = some v)
    (ev : Evo (ωi i j k ω) H ω' H') (ki : σ'[i]? = (σ.set j (some v))[i]?) (kj : σ'[j]? = (σ.set j (some v))[j]?) (G' : Good K B ω' σ' H' e') (he : e'[j]? = some (some o')) :
    Evo ω H (ωj i j k ω ω') H' ∧ Good K B (ωj i j k ω ω') σ' H' ((e'.set j none).set i (some (.lst (os.set k o')))) := by
  have ilt : i < env.length := (List.getElem?_eq_some_iff.mp hi).1
  have iB : i < B := Nat.lt_of_lt_of_le ilt G.nB
  obtain ⟨v0, k1, k2⟩ := G.rel i _ hi
  rw [hD] at k1
  cases k1
  cases k2 with
  | @lst _ _ vs2 _ e1 e2 l g =>
  rw [hH] at e2
  cases e2
  rw [List.getElem?_set_ne (Ne.symm hij), hD] at ki
  rw [List.getElem?_set_self (by rw [G.len]; exact hj)] at kj
  have rest_iff : ∀ a q, ω a = .mine (i :: q) → (∀ q', q ≠ k :: q') → ωj i j k ω ω' a = .mine (i :: q) := fun a q z h => by
    unfold ωj; rw [if_pos ⟨q, z, h⟩, z]
  have rest_out : ∀ a, (∃ q, ω a = .mine (i :: q) ∧ ∀ q', q ≠ k :: q') → ∃ x, H a = some x ∧ ω' a = .out ∧ H' a = some x := fun a ⟨q, z, h⟩ => by
    cases y : H a with
    | none => have := G.wf a (.of y); rw [z] at this; cases this
    | some x => exact ⟨x, rfl, ev.out a x y (ωi_rest z h)⟩
  have not_rest : ∀ a, ω' a ≠ .out → ¬ ∃ q, ω a = .mine (i :: q) ∧ ∀ q', q ≠ k :: q' := fun a h r => by
    obtain ⟨x, _, z, _⟩ := rest_out a r
    exact h z
  have jfr : ∀ a, ω' a = .fr → ωj i j k ω ω' a = .fr := fun a z => by
    unfold ωj; rw [if_neg (not_rest a (by rw [z]; exact fun t => nomatch t)), z]
  have jj : ∀ a q, ω' a = .mine (j :: q) → ωj i j k ω ω' a = .mine (i :: k :: q) := fun a q z => by
    unfold ωj; rw [if_neg (not_rest a (by rw [z]; exact fun t => nomatch t)), z]; simp
  have jo : ∀ a r q, ω' a = .mine (r :: q) → r ≠ j → r ≠ i → ωj i j k ω ω' a = .mine (r :: q) := fun a r q z h1 h2 => by
    unfold ωj; rw [if_neg (not_rest a (by rw [z]; exact fun t => nomatch t)), z]; simp [h1, h2]
  have fr2 : ∀ a x, H a = some x → ω a = .fr → ωj i j k ω ω' a = .fr ∧ H' a = some x := fun a x y z => by
    obtain ⟨h1, h2⟩ := ev.fr a x y (ωi_fr z)
    exact ⟨jfr a h1, h2⟩
  have iσ : i < σ'.length := (List.getElem?_eq_some_iff.mp ki).1
  refine ⟨⟨fr2, fun a x y z => ?_, fun a z => ?_, ev.frz⟩, fun t o2 y => ?_, fun a p z => ?_, fun a z => jfr a (G'.wf a z), by simp; exact G'.nB, by simp; exact G'.len⟩
  · obtain ⟨h1, h2⟩ := ev.out a x y (ωi_out z)
    refine ⟨?_, h2⟩
    unfold ωj
    rw [if_neg (fun ⟨q, r, _⟩ => by rw [z] at r; cases r), h1]
  · unfold ωj at z
    split at z
    · exact z
    · rename_i hr
      split at z
      · split at z
        · cases z
        · split at z <;> cases z
      · have := ev.back a z
        unfold ωi at this
        split at this
        · rename_i r q hz
          split at this
          · rename_i hri
            split at this
            · rename_i t q'
              split at this
              · cases this
              · rename_i htk
                exact absurd ⟨_, by rw [hz, hri], fun q2 e => htk (List.cons.inj e).1⟩ hr
            · exact absurd ⟨[], by rw [hz, hri], fun q2 e => nomatch e⟩ hr
          · split at this <;> cases this
        · exact this
  · by_cases hti : t = i
    · subst hti
      rw [List.getElem?_set_self (by simp; rw [← G'.len]; exact iσ)] at y
      cases y
      have rD := rest_iff D [] (by simpa using e1) (fun q' e => nomatch e)
      obtain ⟨x, y1, y2, y3⟩ := rest_out D ⟨[], by simpa using e1, fun q' e => nomatch e⟩
      rw [hH] at y1
      cases y1
      refine ⟨_, ki, .lst rD y3 (by simp [l]) fun n v2 o2 z1 z2 => ?_⟩
      by_cases hn : n = k
      · subst hn
        rw [hv] at z1
        cases z1
        rw [List.getElem?_set_self (by rw [← l]; exact (List.getElem?_eq_some_iff.mp hv).1)] at z2
        cases z2
        obtain ⟨v3, h1, h2⟩ := G'.rel j _ he
        rw [kj] at h1
        cases h1
        exact h2.tr [t, n] (fun a x q z y => ⟨jj a _ z, y⟩) fun a x y z => ⟨jfr a z, y⟩
      · rw [List.getElem?_set_ne (Ne.symm hn)] at z2
        refine (g n v2 o2 z1 z2).tr [t, n] (fun a x q z y => ?_) fun a x y z => fr2 a x y z
        have z' : ω a = .mine (t :: n :: q) := z
        have nr : ∀ q', n :: q ≠ k :: q' := fun q' e => hn (List.cons.inj e).1
        obtain ⟨x2, y1, y2, y3⟩ := rest_out a ⟨_, z', nr⟩
        rw [y] at y1
        cases y1
        exact ⟨rest_iff a _ z' nr, y3⟩
    · rw [List.getElem?_set_ne (Ne.symm hti)] at y
      by_cases htj : t = j
      · subst htj
        rw [List.getElem?_set] at y
        split at y
        · split at y <;> cases y
        · rename_i hne; exact absurd rfl hne
      · rw [List.getElem?_set_ne (Ne.symm htj)] at y
        obtain ⟨u, h1, h2⟩ := G'.rel t o2 y
        exact ⟨u, h1, h2.tr [t] (fun a x q z y => ⟨jo a t q z htj hti, y⟩) fun a x y z => ⟨jfr a z, y⟩⟩
  · unfold ωj at z
    split at z
    · exact G.root a p z
    · split at z
      · rename_i r q hz
        obtain ⟨r2, q2, h1, h2⟩ := G'.root a _ hz
        cases h1
        split at z
        · cases z; exact ⟨i, _, rfl, iB⟩
        · split at z
          · cases z
          · cases z; exact ⟨_, _, rfl, h2⟩
      · rename_i h
        obtain ⟨r, q, e, _⟩ := G'.root a p z
        exact absurd (by rw [z, e]) (h r q)
end
section
variable {X : Cx} {W : WX} {kp : Nat → Bool} {sts : List Stmt} {pos : Pos} {ga : En → Rs Fl}
theorem vs_forM {i j : Nat} {x y : Str} {p1 p2 : Pos} (hp : PassesOwn (model X.prog X.w) X.A X.env X.xe) (hc : X.calm = true) (hN : X.N.Nodup) (hx : X.N[i]? = some x) (hy : X.N[j]? = some y) (hyl : Loc X.env.scope y) (hb : VSs X W (fun t => kp t || t == i || t == j) sts ga) (hk : kp j = false := by rfl)
    (hv : Vis X.env.scope x := by first | exact Or.inl rfl | exact Or.inr (Or.inl rfl) | exact Or.inr (Or.inr rfl)) (hd : (x == ("__debug__" : Str)) = false := by decide) (hcd : (x == ("__classdict__" : Str)) = false := by decide)
    (hf : X.fn y = true ∨ X.env.scope.names.lookup y = some .local := by first | exact .inl rfl | exact .inr rfl | assumption) (hs : ∀ z, foldedSetIterable (.Name x p1) X.env z = pure z := by intro _; rfl) : VS X W kp (.For (.Name y p2) (.Name x p1) sts [] pos) (fForM i j ga) := by
  obtain ⟨tb, pb, sb⟩ := hb.ex
  refine ⟨_, ps_for hp hc (pi_list (pe_var hx hv hd hcd)) (pg_name hN hy hyl hf) pb hs, fun B ω σ H env D G z => ?_⟩
  unfold fForM at z
  split at z
  case h_2 => exact z.elim
  rename_i os hi
  split at z
  case isFalse => exact z.elim
  rename_i hij
  obtain ⟨hij, hj⟩ := hij
  obtain ⟨v0, k1, k2⟩ := G.rel i _ hi
  cases k2 with
  | @lst _ L vs0 _ e1 e2 l g =>
  refine ⟨_, k1, L, rfl, ⟨vs0, .inl (.inl e2)⟩, ?_⟩
  have keepK : ∀ {σ1 σ2 : L2.St}, Keep (fun t => kp t || t == i || t == j) σ1 σ2 → Keep kp σ1 σ2 := fun h t ht => h t (by simp [ht])
  refine ⟨fun k m σ' H' => ∃ ω' env' os', Evo ω H ω' H' ∧ Keep kp σ σ' ∧ Good X.K B ω' σ' H' env' ∧ m = os.length - k ∧ k ≤ os.length ∧ env'[i]? = some (some (.lst os')) ∧ os'.length = os.length ∧ σ'[i]? = some (some (.ref L)) ∧ j < env'.length ∧ SPost X.K X.mg W kp B ω' σ' H' D (vForM i j ga (os.length - k) k env'),
    ⟨os.length, ω, env, os, .refl _ _, .refl _ _, G, by simp, Nat.zero_le _, hi, rfl, k1, hj, by simpa using z⟩, ?_⟩
  rintro k m σ' H' ⟨ω', env', os', ev', ke', G', rfl, hk', hi', hl', hL', hj', sp⟩
  by_cases hlt : k < os.length
  · right
    have hok : os'[k]? = some os'[k] := List.getElem?_eq_getElem (by omega)
    obtain ⟨D1, vs, v, h1, h2, h3, h4, G2⟩ := G'.out1 hij hj' hi' hok
    rw [hL'] at h1
    cases h1
    have sq : SqL X.K H' L vs := .inl (.inl h2)
    refine ⟨⟨vs, v, sq, h4⟩, fun σ2 H2 => ∃ ω' env' os', Evo ω H ω' H2 ∧ Keep kp σ σ2 ∧ Good X.K B ω' σ2 H2 env' ∧ env'[i]? = some (some (.lst os')) ∧ os'.length = os.length ∧ σ2[i]? = some (some (.ref L)) ∧ j < env'.length ∧ SPost X.K X.mg W kp B ω' σ2 H2 D (vForM i j ga (os.length - (k + 1)) (k + 1) env'),
      fun σ2 H2 ⟨ω2, e2, o2, a1, a2, a3, a4, a5, a6, a7, a8⟩ => ⟨os.length - (k + 1), by omega, ω2, e2, o2, a1, a2, a3, rfl, hlt, a4, a5, a6, a7, a8⟩, fun w H2 hw => ?_⟩
    have hw1 := hw.2 vs sq
    have hw2 := hw.1
    subst hw2
    rw [h4] at hw1
    cases hw1
    show tb _ (σ'.set j (some v)) H2
    rw [show os.length - k = (os.length - (k + 1)) + 1 by omega] at sp
    unfold vForM at sp
    rw [hi'] at sp
    dsimp only at sp
    rw [hok] at sp
    dsimp only at sp
    refine sb B (ωi i j k ω') (σ'.set j (some v)) H2 _ _ G2 ?_
    cases hg : ga ((env'.set i none).set j (some os'[k])) with
    | bad => rw [hg] at sp; exact sp.elim
    | ex c e => rw [hg] at sp; exact sp.elim
    | ok fl e3 =>
      rw [hg] at sp
      cases fl with
      | bk => exact sp.elim
      | ct => exact sp.elim
      | ret o => exact sp.elim
      | nx =>
        dsimp only at sp
        intro ω3 σ3 H3 ev3 ke3 G3
        split at sp
        · rename_i o' he
          obtain ⟨ev4, G4⟩ := G'.back1 hij hj' hi' hok hL' h2 h4 ev3 (ke3 i (by simp)) (ke3 j (by simp)) G3 he
          have li : i < e3.length := by
            have := ke3 i (by simp)
            rw [List.getElem?_set_ne (Ne.symm hij), hL'] at this
            rw [← G3.len]; exact (List.getElem?_eq_some_iff.mp this).1
          have kk : Keep kp σ' σ3 := (Keep.set hk).trans (keepK ke3)
          refine ⟨_, _, os'.set k o', ev'.trans ev4, ke'.trans kk, G4, ?_, by simp [hl'], ?_, ?_, SPost.evo ev4 kk sp⟩
          · rw [List.getElem?_set_self (by simpa using li)]
          · have := ke3 i (by simp)
            rw [List.getElem?_set_ne (Ne.symm hij), hL'] at this
            exact this
          · simp
            exact (List.getElem?_eq_some_iff.mp he).1
        · exact sp.elim
  · left
    have : k = os.length := by omega
    subst this
    obtain ⟨v1, h1, h2⟩ := G'.rel i _ hi'
    rw [hL'] at h1
    cases h1
    cases h2 with
    | @lst _ _ vs _ e1' e2' l' g' =>
    refine ⟨⟨vs, .inl (.inl e2'), by rw [l', hl']; exact Nat.le_refl _⟩, ?_⟩
    rw [Nat.sub_self] at sp
    exact sp.here_nx G'
end
end MV
set_option Elab.async false
set_option linter.all false
set_option maxRecDepth 100000
set_option maxHeartbeats 4000000
/-! The functions' own equations, for simp: no program in sight. -/
namespace MV
open PySem PySem.Spec PyProof.Rows L2
section
variable {f g fa fb fc fe fo fi : En → Rs Vl} {ga gb : En → Rs Fl} {ta tb : En → Rs Bool} {env e : En} {i j n N : Nat} {q q2 q3 : Bool}
@[simp] theorem fSeq_eq : fSeq ga gb env = bindF (ga env) gb := rfl
@[simp] theorem fNext_eq : fNext env = .ok .nx env := rfl
@[simp] theorem fIf_eq : fIf ta ga gb env = (ta env).bind fun b e => if b then ga e else gb e := rfl
@[simp] theorem fSet_eq : fSet i f env = (f env).bind fun x e => match x with
  | .lf w => .ok .nx (e.set i (some (.lf w)))
  | .pl _ _ => .bad := rfl
@[simp] theorem fRet_eq : fRet f env = (f env).bind fun x e => match x with
  | .lf w => .ok (.ret (.lf w)) e
  | .pl _ _ => .bad := rfl
@[simp] theorem fRetN_eq : fRetN env = .ok (.ret (.lf .none)) env := rfl
@[simp] theorem fDrop_eq : fDrop f env = (f env).bind fun _ e => .ok .nx e := rfl
@[simp] theorem fBreak_eq : fBreak env = .ok .bk env := rfl
@[simp] theorem fCont_eq : fCont env = .ok .ct env := rfl
@[simp] theorem fSetO_eq {h : En → Rs O} : fSetO i h env = (h env).bind fun o e => .ok .nx (e.set i (some o)) := rfl
@[simp] theorem fRetO_eq {h : En → Rs O} : fRetO h env = (h env).bind fun o e => .ok (.ret o) e := rfl
@[simp] theorem fAsg_eq {gt : PyData → En → Option En} : fAsg gt f env = (f env).bind fun x e => match x with
  | .lf w => match gt w e with
    | some e' => .ok .nx e'
    | none => .bad
  | .pl _ _ => .bad := rfl
@[simp] theorem fPut_eq : fPut fe fo fi env = (fe env).bind fun x e => (fo e).bind fun o e1 => (fi e1).bind fun i e2 => match o, i, x with
  | .pl (.lst os) up, .lf (.int k), .lf w => match ixN os.length k with
    | some j => .ok .nx (up (.lst (os.set j (.lf w))))
    | none => .bad
  | _, _, _ => .bad := rfl
@[simp] theorem fApp_eq : fApp i fe env = match env[i]? with
  | some (some (.lst _)) => (fe env).bind fun x e => (match x, e[i]? with
    | .lf w, some (some (.lst os)) => if os.length < sizeLine then .ok .nx (e.set i (some (.lst (os ++ [.lf w])))) else .bad
    | _, _ => .bad)
  | _ => .bad := rfl
@[simp] theorem fExt_eq : fExt i fe env = match env[i]? with
  | some (some (.lst _)) => (fe env).bind fun x e => (match x.items, e[i]? with
    | some ws, some (some (.lst os)) => if os.length + ws.length ≤ sizeLine then .ok .nx (e.set i (some (.lst (os ++ ws.map .lf)))) else .bad
    | _, _ => .bad)
  | _ => .bad := rfl
@[simp] theorem fRev_eq : fRev i env = match env[i]? with
  | some (some (.lst os)) => match lfs os with
    | some ws => .ok .nx (env.set i (some (.lst (ws.reverse.map .lf))))
    | none => .bad
  | _ => .bad := rfl
@[simp] theorem fFrz_eq : fFrz i env = match env[i]? with
  | some (some o) => match o.er with
    | some w => .ok (.lf w) (env.set i (some (.lf w)))
    | none => .bad
  | _ => .bad := rfl
@[simp] theorem fFor_eq {it : En → Rs (List PyData)} {gt : PyData → En → Option En} : fFor it gt ga env = (it env).bind fun ws e => vFor gt ga ws e := rfl
@[simp] theorem fVar_eq : fVar i env = match env[i]? with
  | some (some (.lf w)) => .ok (.lf w) env
  | some (some o) => .ok (.pl o fun o' => env.set i (some o')) env
  | _ => .bad := rfl
@[simp] theorem fC_eq {w : PyData} : fC w env = .ok (.lf w) env := rfl
@[simp] theorem isLf_lf {w : PyData} : (Vl.lf w).isLf = true := rfl
@[simp] theorem fBin_eq {k : G2} : fBin q2 k fa fb env = (fa env).bind fun x e => if q2 || x.isLf then (fb e).bind fun y e' => (match k x y with
  | some z => .ok (.lf z) e'
  | none => .bad) else .bad := rfl
@[simp] theorem fBinV_eq {k : Vl → Vl → Option Vl} : fBinV q2 k fa fb env = (fa env).bind fun x e => if q2 || x.isLf then (fb e).bind fun y e' => (match k x y with
  | some z => .ok z e'
  | none => .bad) else .bad := rfl
@[simp] theorem fChain_eq {k k' : G2} : fChain q2 q3 k k' fa fb fc env = (fa env).bind fun x e => if q2 || x.isLf then (fb e).bind fun y e' => (match k x y with
  | some (.bool true) => if q3 || y.isLf then (fc e').bind fun z e2 => (match k' y z with
    | some t => .ok (.lf t) e2
    | none => .bad) else .bad
  | some (.bool false) => .ok (.lf (.bool false)) e'
  | _ => .bad) else .bad := rfl
@[simp] theorem fTst_eq : fTst f env = (f env).bind fun x e => match x with
  | .lf (.bool b) => .ok b e
  | _ => .bad := rfl
@[simp] theorem fTru_eq : fTru f env = (f env).bind fun x e => match x.truth with
  | some k => .ok k e
  | none => .bad := rfl
@[simp] theorem truth_b {b : Bool} : (Vl.lf (.bool b)).truth = some b := rfl
@[simp] theorem fNotT_eq : fNotT ta env = (ta env).bind fun x e => .ok (!x) e := rfl
@[simp] theorem fAndT_eq : fAndT ta tb env = (ta env).bind fun x e => if x then tb e else .ok false e := rfl
@[simp] theorem fOrT_eq : fOrT ta tb env = (ta env).bind fun x e => if x then .ok true e else tb e := rfl
@[simp] theorem fAndV_eq : fAndV fa fb env = (fa env).bind fun x e => match x with
  | .lf (.bool true) => fb e
  | .lf (.bool false) => .ok (.lf (.bool false)) e
  | _ => .bad := rfl
@[simp] theorem fOrV_eq : fOrV fa fb env = (fa env).bind fun x e => match x with
  | .lf (.bool false) => fb e
  | .lf (.bool true) => .ok (.lf (.bool true)) e
  | _ => .bad := rfl
@[simp] theorem fNotV_eq : fNotV fa env = (fa env).bind fun x e => match x with
  | .lf (.bool b) => .ok (.lf (.bool (!b))) e
  | _ => .bad := rfl
@[simp] theorem fNeg_eq : fNeg fa env = (fa env).bind fun x e => match x with
  | .lf (.int i) => .ok (.lf (.int (-i))) e
  | _ => .bad := rfl
@[simp] theorem fIsi_eq {T : Ty} : fIsi T fa env = (fa env).bind fun x e => match x.ty with
  | some t => .ok (.lf (.bool (t.sub T))) e
  | none => .bad := rfl
@[simp] theorem ty_int {i : Int} : (Vl.lf (.int i)).ty = some .int := rfl
@[simp] theorem ty_bool {i : Bool} : (Vl.lf (.bool i)).ty = some .bool := rfl
@[simp] theorem ty_str {i : Str} : (Vl.lf (.str i)).ty = some .str := rfl
@[simp] theorem ty_lst {i : List PyData} : (Vl.lf (.list i)).ty = some .list := rfl
@[simp] theorem ty_tup {i : List PyData} : (Vl.lf (.tuple i)).ty = some .tuple := rfl
@[simp] theorem ty_non : (Vl.lf .none).ty = some .none := rfl
@[simp] theorem sub_ii : Ty.sub .int .int = true := rfl
@[simp] theorem sub_ib : Ty.sub .int .bool = false := rfl
@[simp] theorem fNil_eq : fNil env = .ok [] env := rfl
@[simp] theorem fCons_eq {fr : En → Rs (List Vl)} : fCons q2 f fr env = (f env).bind fun x e => if q2 || x.isLf then (fr e).bind fun xs e' => .ok (x :: xs) e' else .bad := rfl
@[simp] theorem fCB_eq {k : List Vl → Option PyData} {fs : En → Rs (List Vl)} : fCB k fs env = (fs env).bind fun xs e => match k xs with
  | some z => .ok (.lf z) e
  | none => .bad := rfl
@[simp] theorem fMk_eq {mk : List PyData → PyData} {fs : En → Rs (List Vl)} : fMk mk fs env = (fs env).bind fun xs e => match vlfs xs with
  | some ws => if ws.length ≤ sizeLine then .ok (.lf (mk ws)) e else .bad
  | none => .bad := rfl
@[simp] theorem fOLst_eq {fs : En → Rs (List Vl)} : fOLst fs env = (fs env).bind fun xs e => match vlfs xs with
  | some ws => if ws.length ≤ sizeLine then .ok (.lst (ws.map .lf)) e else .bad
  | none => .bad := rfl
@[simp] theorem fOBin_eq : fOBin q2 fa fb env = (fa env).bind fun x e => if q2 || x.isLf then (fb e).bind fun y e' => (match x.items, y.items with
  | some xs, some ys => if xs.length + ys.length ≤ sizeLine then .ok (.lst ((xs ++ ys).map .lf)) e' else .bad
  | _, _ => .bad) else .bad := rfl
@[simp] theorem vlfs_nil : vlfs [] = some [] := rfl
@[simp] theorem vlfs_cons {w : PyData} {xs : List Vl} : vlfs (.lf w :: xs) = (vlfs xs).map (w :: ·) := rfl
@[simp] theorem fNoPart_eq : fNoPart env = .ok none env := rfl
@[simp] theorem fPart_eq : fPart f env = (f env).bind fun x e => match x with
  | .lf (.int i) => .ok (some i) e
  | _ => .bad := rfl
@[simp] theorem fSl_eq {fl fh : En → Rs (Option Int)} : fSl q2 q3 f fl fh env = (f env).bind fun x e => if (q2 && q3) || x.isLf then (fl e).bind fun lo e1 => (fh e1).bind fun hi e2 => (match gSl x lo hi with
  | some z => .ok (.lf z) e2
  | none => .bad) else .bad := rfl
@[simp] theorem fIt_eq : fIt f env = (f env).bind fun x e => match x with
  | .lf (.list ws) => .ok ws e
  | .lf (.tuple ws) => .ok ws e
  | .lf (.str z) => .ok (signs z) e
  | _ => .bad := rfl
@[simp] theorem fRng1_eq {fs : En → Rs (List Vl)} : fRng1 fs env = (fs env).bind fun xs e => match xs with
  | [.lf (.int j)] => if rOk j then .ok (rng 0 j.toNat) e else .bad
  | _ => .bad := rfl
@[simp] theorem fRng2_eq {fs : En → Rs (List Vl)} : fRng2 fs env = (fs env).bind fun xs e => match xs with
  | [.lf (.int i), .lf (.int j)] => if rOk i && rOk j then .ok (rng i (j - i).toNat) e else .bad
  | _ => .bad := rfl
@[simp] theorem fLc_eq {it : En → Rs (List PyData)} {vs : List Nat} {gt : PyData → En → Option En} : fLc it vs gt ta fe env = (it env).bind fun ws e => if okOwn e vs then (vLc vs gt ta fe ws [] e).bind fun acc e' => .ok (.lf (.list acc)) (restE e e' vs) else .bad := rfl
@[simp] theorem fYes_eq : fYes env = .ok true env := rfl
@[simp] theorem fCallQ_eq {F : List O → Rs O} {fr : En → Rs (List Arg)} : fCallQ F fr env = ((fr env).bind fun xs e => if (mvs xs).Nodup then match takeA e xs with
  | some os => match F os with
    | .ok r ps => (match putA xs ps e with
      | some e' => .ok r e'
      | none => .bad)
    | .ex c ps => (match putA xs ps e with
      | some e' => .ex c e'
      | none => .bad)
    | .bad => .bad
  | none => .bad else .bad).bind fun o e => match o with
  | .lf w => .ok (.lf w) e
  | _ => .bad := rfl
@[simp] theorem aNil_eq : aNil env = .ok [] env := rfl
@[simp] theorem aVal_eq {fr : En → Rs (List Arg)} : aVal f fr env = (f env).bind fun x e => match x with
  | .lf w => (fr e).bind fun xs e' => .ok (.va w :: xs) e'
  | .pl _ _ => .bad := rfl
@[simp] theorem aMv_eq {fr : En → Rs (List Arg)} : aMv i fr env = match env[i]? with
  | some (some (.lf w)) => (fr env).bind fun xs e' => .ok (.va w :: xs) e'
  | some (some _) => (fr env).bind fun xs e' => .ok (.mv i :: xs) e'
  | _ => .bad := rfl
@[simp] theorem mvs_n : mvs [] = [] := rfl
@[simp] theorem mvs_v {w : PyData} {xs : List Arg} : mvs (.va w :: xs) = mvs xs := rfl
@[simp] theorem mvs_m {xs : List Arg} : mvs (.mv i :: xs) = i :: mvs xs := rfl
@[simp] theorem takeA_n : takeA e [] = some [] := rfl
@[simp] theorem takeA_v {w : PyData} {xs : List Arg} : takeA e (.va w :: xs) = (takeA e xs).map (.lf w :: ·) := rfl
@[simp] theorem takeA_m {xs : List Arg} : takeA e (.mv i :: xs) = match e[i]? with
  | some (some o) => (takeA e xs).map (o :: ·)
  | _ => none := rfl
@[simp] theorem putA_n {ps : List (Option O)} : putA [] ps e = some e := rfl
@[simp] theorem putA_v {w : PyData} {p : Option O} {xs : List Arg} {ps : List (Option O)} : putA (.va w :: xs) (p :: ps) e = putA xs ps e := rfl
@[simp] theorem putA_m {o : O} {xs : List Arg} {ps : List (Option O)} : putA (.mv i :: xs) (some o :: ps) e = putA xs ps (e.set i (some o)) := rfl
@[simp] theorem tgName_eq {w : PyData} : tgName i w env = if i < env.length then some (env.set i (some (.lf w))) else none := rfl
@[simp] theorem tgAny_t {ws : List PyData} {gs : List PyData → En → Option En} : tgAny n gs (.tuple ws) env = if ws.length = n then gs ws env else none := rfl
@[simp] theorem tgAny_l {ws : List PyData} {gs : List PyData → En → Option En} : tgAny n gs (.list ws) env = if ws.length = n then gs ws env else none := rfl
@[simp] theorem tgCons_eq {w : PyData} {ws : List PyData} {gt : PyData → En → Option En} {gs : List PyData → En → Option En} : tgCons gt gs (w :: ws) env = (gt w env).bind fun e => gs ws e := rfl
@[simp] theorem tgNil_eq : tgNil [] env = some env := rfl
/-! ### at values -/
@[simp] theorem er_lf {w : PyData} : (Vl.lf w).er = some w := rfl
@[simp] theorem er_pl {o : O} {up : O → En} : (Vl.pl o up).er = o.er := rfl
@[simp] theorem ers_map {ws : List PyData} : O.ers (ws.map .lf) = some ws := by
  induction ws with
  | nil => rfl
  | cons w ws ih => rw [List.map_cons, O.ers, ih]; rfl
@[simp] theorem ers_comp {α : Type} {h : α → PyData} {ws : List α} : O.ers (ws.map (O.lf ∘ h)) = some (ws.map h) := by
  rw [← List.map_map]; exact ers_map
@[simp] theorem er_lst {os : List O} : (O.lst os).er = (O.ers os).map .list := by rw [O.er]
@[simp] theorem er_lfo {w : PyData} : (O.lf w).er = some w := by rw [O.er]
@[simp] theorem lfs_comp {α : Type} {h : α → PyData} {ws : List α} : lfs (ws.map (O.lf ∘ h)) = some (ws.map h) := by
  rw [← List.map_map]; exact lfs_map _
@[simp] theorem lfs_nil : lfs [] = some [] := rfl
@[simp] theorem lfs_cons {w : PyData} {os : List O} : lfs (.lf w :: os) = (lfs os).map (w :: ·) := rfl
@[simp] theorem items_l {ws : List PyData} : (Vl.lf (.list ws)).items = some ws := rfl
@[simp] theorem items_p {os : List O} {up : O → En} : (Vl.pl (.lst os) up).items = lfs os := rfl
@[simp] theorem items_t {ws : List PyData} : (Vl.lf (.tuple ws)).items = none := rfl
@[simp] theorem titems_t {ws : List PyData} : (Vl.lf (.tuple ws)).titems = some ws := rfl
@[simp] theorem gI_ii {C : Int → Int → Bool} {h : Int → Int → PyData} {i j : Int} : gI C h (.lf (.int i)) (.lf (.int j)) = if C i j then some (h i j) else none := rfl
@[simp] theorem gAdd_ii {i j : Int} : gAdd (.lf (.int i)) (.lf (.int j)) = some (.int (i + j)) := rfl
@[simp] theorem gAdd_ll {xs ys : List PyData} : gAdd (.lf (.list xs)) (.lf (.list ys)) = if xs.length + ys.length ≤ sizeLine then some (.list (xs ++ ys)) else none := rfl
@[simp] theorem gAdd_ss {x y : Str} (h : x.length + y.length ≤ sizeLine) : gAdd (.lf (.str x)) (.lf (.str y)) = some (.str (x ++ y)) := by
  simp [gAdd, gOr, gI, gCatS, h]
@[simp] theorem gSub_ii {i j : Int} : gSub (.lf (.int i)) (.lf (.int j)) = some (.int (i - j)) := rfl
@[simp] theorem gMul_ii {i j : Int} : gMul (.lf (.int i)) (.lf (.int j)) = if cMul i j then some (.int (i * j)) else none := rfl
@[simp] theorem gMod_ii {i j : Int} : gMod (.lf (.int i)) (.lf (.int j)) = if 0 < j then some (.int (i % j)) else none := by simp [gMod]
@[simp] theorem gDiv_ii {i j : Int} : gDiv (.lf (.int i)) (.lf (.int j)) = if 0 < j ∧ j < 1073741824 then some (.int (i / j)) else none := by simp [gDiv]
@[simp] theorem gPow_ii {i j : Int} : gPow (.lf (.int i)) (.lf (.int j)) = if (0 ≤ j ∧ j ≤ 1000000) ∧ i.natAbs < 2 ^ 64 then some (.int (i ^ j.toNat)) else none := by simp [gPow]
@[simp] theorem gLt_ii {i j : Int} : gLt (.lf (.int i)) (.lf (.int j)) = some (.bool (decide (i < j))) := rfl
@[simp] theorem gLe_ii {i j : Int} : gLe (.lf (.int i)) (.lf (.int j)) = some (.bool (decide (i ≤ j))) := rfl
@[simp] theorem gGt_ii {i j : Int} : gGt (.lf (.int i)) (.lf (.int j)) = some (.bool (decide (j < i))) := rfl
@[simp] theorem gGe_ii {i j : Int} : gGe (.lf (.int i)) (.lf (.int j)) = some (.bool (decide (j ≤ i))) := rfl
theorem cMul_r {i j : Int} (h1 : -(2 ^ 64) < j) (h2 : j < 2 ^ 64) : cMul i j = true := by
  unfold cMul; rw [decide_eq_true (show j.natAbs < 2 ^ 64 by omega), Bool.or_true]
theorem cMul_l {i j : Int} (h1 : -(2 ^ 64) < i) (h2 : i < 2 ^ 64) : cMul i j = true := by
  unfold cMul; rw [decide_eq_true (show i.natAbs < 2 ^ 64 by omega), Bool.true_or]
theorem cMul_mod {a c j : Int} (h1 : 0 < c) (h2 : c < 2 ^ 64) : cMul (a % c) j = true := cMul_l (by have := Int.emod_nonneg a (show c ≠ 0 by omega); omega) (by have := Int.emod_lt_of_pos a h1; omega)
/-! ### shapes -/
def Sh (n : Nat) (d : PyData) : Prop := d.canLay0 = true ∧ d.depth ≤ n
theorem Sh.shaped {n : Nat} {d : PyData} (h : Sh n d) (hn : n ≤ 64) : SeqAt.shaped d = true := by
  unfold SeqAt.shaped
  rw [h.1]
  simp only [Bool.true_and, decide_eq_true_eq]
  exact Nat.le_trans h.2 hn
theorem Sh.mono {n m : Nat} {d : PyData} (h : Sh n d) (hn : n ≤ m) : Sh m d := ⟨h.1, Nat.le_trans h.2 hn⟩
theorem Sh.int (i : Int) : Sh 0 (.int i) := ⟨by rw [PyData.canLay0], by rw [PyData.depth]; exact Nat.le_refl _⟩
theorem Sh.bool (i : Bool) : Sh 0 (.bool i) := ⟨by rw [PyData.canLay0], by rw [PyData.depth]; exact Nat.le_refl _⟩
theorem Sh.none : Sh 0 .none := ⟨by rw [PyData.canLay0], by rw [PyData.depth]; exact Nat.le_refl _⟩
theorem Sh.alls : ∀ {n : Nat} {ds : List PyData}, (∀ d ∈ ds, Sh n d) → PyData.canLayAll0 ds = true ∧ PyData.depthAll ds ≤ n
  | n, [], _ => ⟨by rw [PyData.canLayAll0], by rw [PyData.depthAll]; exact Nat.zero_le _⟩
  | n, d :: ds, h => by
    obtain ⟨h1, h2⟩ := Sh.alls (n := n) (ds := ds) fun d hd => h d (List.mem_cons_of_mem _ hd)
    obtain ⟨h3, h4⟩ := h d List.mem_cons_self
    exact ⟨by rw [PyData.canLayAll0, h3, h1]; rfl, by rw [PyData.depthAll]; exact Nat.max_le.mpr ⟨h4, h2⟩⟩
theorem Sh.list {n : Nat} {ds : List PyData} (h : ∀ d ∈ ds, Sh n d) : Sh (n + 1) (.list ds) := by
  obtain ⟨h1, h2⟩ := Sh.alls h
  exact ⟨by rw [PyData.canLay0]; exact h1, by rw [PyData.depth]; exact Nat.succ_le_succ h2⟩
theorem Sh.tuple {n : Nat} {ds : List PyData} (h : ∀ d ∈ ds, Sh n d) : Sh (n + 1) (.tuple ds) := by
  obtain ⟨h1, h2⟩ := Sh.alls h
  exact ⟨by rw [PyData.canLay0]; exact h1, by rw [PyData.depth]; exact Nat.succ_le_succ h2⟩
@[simp] theorem shaped_int (i : Int) : SeqAt.shaped (.int i) = true := (Sh.int i).shaped (by decide)
@[simp] theorem shaped_bool (i : Bool) : SeqAt.shaped (.bool i) = true := (Sh.bool i).shaped (by decide)
@[simp] theorem shaped_none : SeqAt.shaped .none = true := Sh.none.shaped (by decide)
@[simp] theorem eqv_ii (i j : Int) : PyData.eqv (.int i) (.int j) = (i == j) := by rw [PyData.eqv]
@[simp] theorem eqv_bb (i j : Bool) : PyData.eqv (.bool i) (.bool j) = (i == j) := by rw [PyData.eqv]
@[simp] theorem eqv_ll (xs ys : List PyData) : PyData.eqv (.list xs) (.list ys) = PyData.eqvAll xs ys := by rw [PyData.eqv]
@[simp] theorem eqv_tt (xs ys : List PyData) : PyData.eqv (.tuple xs) (.tuple ys) = PyData.eqvAll xs ys := by rw [PyData.eqv]
@[simp] theorem eqvAll_nn : PyData.eqvAll [] [] = true := by rw [PyData.eqvAll]
@[simp] theorem eqvAll_cc (x y : PyData) (xs ys : List PyData) : PyData.eqvAll (x :: xs) (y :: ys) = (PyData.eqv x y && PyData.eqvAll xs ys) := by rw [PyData.eqvAll]
theorem eqvAll_refl {xs : List PyData} (h : ∀ x ∈ xs, PyData.eqv x x = true) : PyData.eqvAll xs xs = true := by
  induction xs with
  | nil => simp
  | cons x xs ih => simp [h x List.mem_cons_self, ih fun y hy => h y (List.mem_cons_of_mem _ hy)]
/-- == where data are written by a one-to-one word -/
theorem eqvAll_map {α : Type} [DecidableEq α] {h : α → PyData} (hh : ∀ a b, PyData.eqv (h a) (h b) = decide (a = b)) : ∀ xs ys : List α, PyData.eqvAll (xs.map h) (ys.map h) = decide (xs = ys)
  | [], [] => by simp
  | [], _ :: _ => by simp [PyData.eqvAll]
  | _ :: _, [] => by simp [PyData.eqvAll]
  | x :: xs, y :: ys => by
    simp only [List.map_cons, eqvAll_cc, hh, eqvAll_map hh xs ys, List.cons.injEq, Bool.decide_and]
theorem gEq_of {a b : Vl} {d e : PyData} (h1 : a.er = some d) (h2 : b.er = some e) (s1 : SeqAt.shaped d = true) (s2 : SeqAt.shaped e = true) : gEq a b = some (.bool (PyData.eqv d e)) := by
  unfold gEq; rw [h1, h2]; simp [s1, s2]
theorem gNe_of {a b : Vl} {d e : PyData} (h1 : a.er = some d) (h2 : b.er = some e) (s1 : SeqAt.shaped d = true) (s2 : SeqAt.shaped e = true) : gNe a b = some (.bool (!PyData.eqv d e)) := by
  unfold gNe; rw [h1, h2]; simp [s1, s2]
@[simp] theorem gEq_ii {i j : Int} : gEq (.lf (.int i)) (.lf (.int j)) = some (.bool (decide (i = j))) := by
  rw [gEq_of rfl rfl (shaped_int i) (shaped_int j), eqv_ii, Bool.beq_eq_decide_eq]
@[simp] theorem gNe_ii {i j : Int} : gNe (.lf (.int i)) (.lf (.int j)) = some (.bool (!decide (i = j))) := by
  rw [gNe_of rfl rfl (shaped_int i) (shaped_int j), eqv_ii, Bool.beq_eq_decide_eq]
@[simp] theorem gIx_l {ws : List PyData} {i : Int} : gIx (.lf (.list ws)) (.lf (.int i)) = (atI ws i).map .lf := rfl
@[simp] theorem gIx_t {ws : List PyData} {i : Int} : gIx (.lf (.tuple ws)) (.lf (.int i)) = (atI ws i).map .lf := rfl
theorem gIx_p {os : List O} {up : O → En} {i : Int} {j : Nat} {w : PyData} (h1 : ixN os.length i = some j) (h2 : os[j]? = some (.lf w)) : gIx (.pl (.lst os) up) (.lf (.int i)) = some (.lf w) := by
  simp only [gIx, h1, h2]
theorem atI_of {α : Type} {ws : List α} {i : Int} (h0 : 0 ≤ i) (h : i.toNat < ws.length) : atI ws i = some ws[i.toNat] := by
  rw [getElem_atI (j := i.toNat)]
  · simp [h]
  · unfold ixN; rw [if_pos h0, if_pos (by omega)]
theorem atI_get? {α : Type} {ws : List α} {i : Int} (h0 : 0 ≤ i) (h : i < ws.length) : atI ws i = ws[i.toNat]? := by
  rw [atI_of h0 (by omega)]; simp
@[simp] theorem gLen_l {ws : List PyData} : gLen [.lf (.list ws)] = some (.int ws.length) := rfl
@[simp] theorem gLen_t {ws : List PyData} : gLen [.lf (.tuple ws)] = some (.int ws.length) := rfl
@[simp] theorem gLen_p {os : List O} {up : O → En} : gLen [.pl (.lst os) up] = some (.int os.length) := rfl
@[simp] theorem gListOf_l {ws : List PyData} : gListOf [.lf (.list ws)] = some (.list ws) := rfl
@[simp] theorem gListOf_t {ws : List PyData} : gListOf [.lf (.tuple ws)] = some (.list ws) := rfl
@[simp] theorem gListOf_p {os : List O} {up : O → En} : gListOf [.pl (.lst os) up] = (lfs os).map .list := by
  show (match lfs os with | some ws => some (PyData.list ws) | none => Option.map PyData.list none) = _; cases lfs os <;> rfl
theorem rOk_of {i : Int} (h : -(2 ^ 62) < i) (h2 : i < 2 ^ 62) : rOk i = true := by
  unfold rOk; rw [decide_eq_true]; omega
theorem rOk_nat {n : Nat} (h : n < 2 ^ 62) : rOk (n : Int) = true := rOk_of (by omega) (by omega)
@[simp] theorem rng_len {lo : Int} {n : Nat} : (rng lo n).length = n := by simp [rng]
theorem rng_get {lo : Int} {n i : Nat} {w : PyData} (h : (rng lo n)[i]? = some w) : i < n ∧ w = .int (lo + i) := by
  unfold rng at h
  rw [List.getElem?_map] at h
  by_cases hi : i < n
  · rw [List.getElem?_range hi] at h; cases h; exact ⟨hi, rfl⟩
  · rw [List.getElem?_eq_none (by simpa using hi)] at h; cases h
@[simp] theorem lfs_fun {α : Type} {h : α → PyData} {l : List α} : lfs (l.map fun x => O.lf (h x)) = some (l.map h) := lfs_comp
@[simp] theorem ers_fun {α : Type} {h : α → PyData} {l : List α} : O.ers (l.map fun x => O.lf (h x)) = some (l.map h) := ers_comp
@[simp] theorem gSl_l {ws : List PyData} {lo hi : Option Int} : gSl (.lf (.list ws)) lo hi = some (.list (cut ws lo hi)) := rfl
@[simp] theorem gSl_p {os : List O} {up : O → En} {lo hi : Option Int} : gSl (.pl (.lst os) up) lo hi = (lfs os).map fun ws => .list (cut ws lo hi) := by
  show (match lfs os with | some ws => some (PyData.list (cut ws lo hi)) | none => none) = _
  cases lfs os <;> rfl
theorem sIx_pos {n d : Nat} {v : Int} (h : 0 ≤ v) : HT.sIx n d (some v) = min v.toNat n := by
  show (if v < 0 then (v + (n : Int)).toNat else min v.toNat n) = _
  rw [if_neg (by omega)]
theorem cut_to {α : Type} {ws : List α} {k : Int} (h : 0 ≤ k) : cut ws none (some k) = ws.take k.toNat := by
  unfold cut
  rw [sIx_pos h, HT.sIx_none]
  simp only [List.drop_zero, Nat.sub_zero]
  rcases Nat.le_total k.toNat ws.length with h1 | h1
  · rw [Nat.min_eq_left h1]
  · rw [Nat.min_eq_right h1, List.take_length, List.take_of_length_le h1]
theorem cut_from {α : Type} {ws : List α} {k : Int} (h : 0 ≤ k) : cut ws (some k) none = ws.drop k.toNat := by
  unfold cut
  rw [sIx_pos h, HT.sIx_none]
  rcases Nat.le_total k.toNat ws.length with h1 | h1
  · rw [Nat.min_eq_left h1, List.take_of_length_le (by simp)]
  · rw [Nat.min_eq_right h1, List.drop_length, List.drop_of_length_le h1]; simp
theorem cut_both {α : Type} {ws : List α} {i j : Int} (h : 0 ≤ i) (h' : 0 ≤ j) : cut ws (some i) (some j) = (ws.take j.toNat).drop i.toNat := by
  unfold cut
  rw [sIx_pos h, sIx_pos h']
  rw [List.drop_take]
  rcases Nat.le_total i.toNat ws.length with h1 | h1
  · rw [Nat.min_eq_left h1]
    rcases Nat.le_total j.toNat ws.length with h2 | h2
    · rw [Nat.min_eq_left h2]
    · rw [Nat.min_eq_right h2, List.take_of_length_le (by simp), List.take_of_length_le (by simp; omega)]
  · rw [Nat.min_eq_right h1, List.drop_length, List.drop_of_length_le h1]; simp
/-! ### loops -/
theorem vFor_inv {gt : PyData → En → Option En} {body : En → Rs Fl} (P : Nat → En → Prop) : ∀ (ws : List PyData) (k : Nat) (env : En), P k env → (∀ i w e, ws[i]? = some w → P (k + i) e → ∃ e1 e2, gt w e = some e1 ∧ (body e1 = .ok .nx e2 ∨ body e1 = .ok .ct e2) ∧ P (k + i + 1) e2) →
    ∃ e', vFor gt body ws env = .ok .nx e' ∧ P (k + ws.length) e'
  | [], k, env, h0, _ => ⟨env, rfl, h0⟩
  | w :: ws, k, env, h0, hs => by
    obtain ⟨e1, e2, h1, h2, h3⟩ := hs 0 w env rfl h0
    obtain ⟨e', h4, h5⟩ := vFor_inv P ws (k + 1) e2 h3 fun i w e hi hp => by
      have := hs (i + 1) w e (by simpa using hi) (by rw [show k + (i + 1) = k + 1 + i by omega]; exact hp)
      rw [show k + (i + 1) + 1 = k + 1 + i + 1 by omega] at this
      exact this
    refine ⟨e', ?_, by rw [List.length_cons, show k + (ws.length + 1) = k + 1 + ws.length by omega]; exact h5⟩
    rw [vFor, h1]
    rcases h2 with h2 | h2 <;> simp only [h2, h4]
/-- a comprehension -/
theorem vLc_inv {vs : List Nat} {gt : PyData → En → Option En} {tt : En → Rs Bool} {fe : En → Rs Vl} (P : Nat → List PyData → En → Prop) : ∀ (ws : List PyData) (k : Nat) (acc : List PyData) (env : En), P k acc env →
    (∀ i w acc e, ws[i]? = some w → P (k + i) acc e → ∃ e1 b e2, gt w (wipeE e vs) = some e1 ∧ tt e1 = .ok b e2 ∧ (b = false → P (k + i + 1) acc e2) ∧ (b = true → ∃ w' e3, fe e2 = .ok (.lf w') e3 ∧ acc.length < sizeLine ∧ P (k + i + 1) (acc ++ [w']) e3)) →
    ∃ acc' e', vLc vs gt tt fe ws acc env = .ok acc' e' ∧ P (k + ws.length) acc' e'
  | [], k, acc, env, h0, _ => ⟨acc, env, rfl, h0⟩
  | w :: ws, k, acc, env, h0, hs => by
    obtain ⟨e1, b, e2, h1, h2, h3, h4⟩ := hs 0 w acc env rfl h0
    have next : ∀ acc2 e, P (k + 1) acc2 e → ∃ acc' e', vLc vs gt tt fe ws acc2 e = .ok acc' e' ∧ P (k + 1 + ws.length) acc' e' := fun acc2 e hp => vLc_inv P ws (k + 1) acc2 e hp fun i w a e hi hp => by
      have := hs (i + 1) w a e (by simpa using hi) (by rw [show k + (i + 1) = k + 1 + i by omega]; exact hp)
      rw [show k + (i + 1) + 1 = k + 1 + i + 1 by omega] at this
      exact this
    rw [List.length_cons, show k + (ws.length + 1) = k + 1 + ws.length by omega, vLc, h1]
    dsimp only
    rw [h2]
    cases b with
    | false =>
      obtain ⟨a', e', h5, h6⟩ := next acc e2 (h3 rfl)
      exact ⟨a', e', by simpa [noEx] using h5, h6⟩
    | true =>
      obtain ⟨w', e3, h7, h8, h9⟩ := h4 rfl
      obtain ⟨a', e', h5, h6⟩ := next (acc ++ [w']) e3 h9
      refine ⟨a', e', ?_, h6⟩
      simp [noEx, h7, h8, h5]
end
theorem gIn_D {neg : Bool} {a b : Vl} {d : PyData} {ds : List PyData} (h1 : a.er = some d) (h2 : b.er = some (.list ds)) (s1 : SeqAt.shaped d = true) (s2 : SeqAt.shaped (.list ds) = true) : gIn neg a b = some (.bool (neg != ds.any fun z => PyData.eqv z d)) := by
  unfold gIn gOr gInD; rw [h1, h2]; simp [s1, s2]
@[simp] theorem shaped_wpair (p : Int × Int) : SeqAt.shaped (wpair p) = true := (Sh.tuple (n := 0) (by intro d hd; simp at hd; rcases hd with rfl | rfl <;> exact Sh.int _)).shaped (by decide)
theorem Sh.wpair (p : Int × Int) : Sh 1 (wpair p) := Sh.tuple (n := 0) (by intro d hd; simp at hd; rcases hd with rfl | rfl <;> exact Sh.int _)
@[simp] theorem eqv_wpair (p q : Int × Int) : PyData.eqv (wpair p) (wpair q) = decide (p = q) := by
  obtain ⟨a, b⟩ := p
  obtain ⟨c, d⟩ := q
  simp only [MV.wpair, eqv_tt, eqvAll_cc, eqv_ii, eqvAll_nn, Bool.and_true, Prod.mk.injEq, Bool.decide_and, Bool.beq_eq_decide_eq]
theorem any_wpair (fs : List (Int × Int)) (p : Int × Int) : ((fs.map wpair).any fun z => PyData.eqv z (wpair p)) = decide (p ∈ fs) := by
  induction fs with
  | nil => simp
  | cons f fs ih => simp [ih, eq_comm]
theorem shaped_pairs (fs : List (Int × Int)) : SeqAt.shaped (.list (fs.map wpair)) = true := (Sh.list (n := 1) (by intro d hd; simp at hd; obtain ⟨a, b, _, rfl⟩ := hd; exact Sh.wpair _)).shaped (by decide)
@[simp] theorem gIn_pairs {neg : Bool} {a b : Int} {fs : List (Int × Int)} {up : O → En} : gIn neg (.lf (.tuple [.int a, .int b])) (.pl (.lst (fs.map fun p => .lf (wpair p))) up) = some (.bool (neg != decide ((a, b) ∈ fs))) := by
  rw [gIn_D (d := wpair (a, b)) (ds := fs.map wpair) rfl ?_ (shaped_wpair _) (shaped_pairs _), any_wpair]
  have : (fs.map fun p => O.lf (MV.wpair p)) = (fs.map MV.wpair).map O.lf := by rw [List.map_map]; rfl
  rw [er_pl, this, er_lst, ers_map]; rfl
theorem gNe_pair {a b c d : Int} : gNe (.lf (.tuple [.int a, .int b])) (.lf (.tuple [.int c, .int d])) = some (.bool (!decide ((a, b) = (c, d)))) := by
  rw [gNe_of (d := wpair (a, b)) (e := wpair (c, d)) rfl rfl (shaped_wpair _) (shaped_wpair _), eqv_wpair]
end MV
set_option Elab.async false
set_option linter.all false
set_option maxRecDepth 100000
set_option maxHeartbeats 4000000
namespace MV
open PySem PySem.Spec PyProof.Rows L2
section
variable {f g fa fb fc fe fo fi : En → Rs Vl} {ga gb : En → Rs Fl} {ta tb : En → Rs Bool} {env e : En} {i j n N : Nat} {q q2 q3 : Bool} {fO : En → Rs O} {F : List O → Rs O} {fr : En → Rs (List Arg)} {fs fs1 fs2 : En → Rs (List Vl)}
@[simp] theorem fLcO_eq {it : En → Rs (List PyData)} {vs : List Nat} {gt : PyData → En → Option En} : fLcO it vs gt ta fO env = (it env).bind fun ws e => if okOwn e vs then (vLcO vs gt ta fO ws [] e).bind fun acc e' => .ok (.lst acc) (restE e e' vs) else .bad := rfl
@[simp] theorem fOList_eq : fOList fs env = (fs env).bind fun xs e => match xs with
  | [x] => match x.items with
    | some ws => .ok (.lst (ws.map .lf)) e
    | none => match x.titems with
      | some ws => .ok (.lst (ws.map .lf)) e
      | none => .bad
  | _ => .bad := rfl
@[simp] theorem fFz_eq : fFz fO env = (fO env).bind fun o e => match o.er with
  | some w => .ok (.lf w) e
  | none => .bad := rfl
@[simp] theorem fLf_eq : fLf fO env = (fO env).bind fun o e => match o with
  | .lf w => .ok (.lf w) e
  | _ => .bad := rfl
@[simp] theorem fCallO_eq : fCallO F fr env = (fr env).bind fun xs e => if (mvs xs).Nodup then match takeA e xs with
  | some os => match F os with
    | .ok r ps => (match putA xs ps e with
      | some e' => .ok r e'
      | none => .bad)
    | .ex c ps => (match putA xs ps e with
      | some e' => .ex c e'
      | none => .bad)
    | .bad => .bad
  | none => .bad else .bad := rfl
@[simp] theorem fCallT_eq : fCallT n F fs1 fs2 env = (fs1 env).bind fun xs e => match vlfs xs with
  | some ws1 => if ws1.length ≤ sizeLine then (fs2 e).bind fun ys e' => (match vlfs ys with
    | some ws2 => if ws2.length + 1 = n then (match F (.lst (ws1.map .lf) :: ws2.map .lf) with
      | .ok r _ => .ok r e'
      | .ex c _ => .ex c e'
      | .bad => .bad) else .bad
    | none => .bad) else .bad
  | none => .bad := rfl
@[simp] theorem fCallB_eq : fCallB n F fs env = (fs env).bind fun xs e => match vers xs with
  | some ws => if ws.length = n then (match F (ws.map .lf) with
    | .ok (.lf w) _ => if scalW w then .ok (.lf w) e else .bad
    | .ex c _ => .ex c e
    | _ => .bad) else .bad
  | none => .bad := rfl
@[simp] theorem scalW_b {b : Bool} : scalW (.bool b) = true := rfl
@[simp] theorem scalW_i {b : Int} : scalW (.int b) = true := rfl
@[simp] theorem scalW_n : scalW .none = true := rfl
@[simp] theorem vers_n : vers [] = some [] := rfl
@[simp] theorem vers_c {x : Vl} {xs : List Vl} : vers (x :: xs) = match x.er, vers xs with
  | some w, some ws => some (w :: ws)
  | _, _ => none := rfl
@[simp] theorem fMvO_eq : fMvO i env = match env[i]? with
  | some (some o) => .ok o (env.set i none)
  | _ => .bad := rfl
@[simp] theorem fClr_eq : fClr i env = match env[i]? with
  | some (some (.lst os)) => .ok .nx (env.set i (some (.lst [])))
  | _ => .bad := rfl
@[simp] theorem fRvL_eq : fRvL f env = (f env).bind fun x e => match x.items with
  | some ws => .ok (.lf (.list ws.reverse)) e
  | none => .bad := rfl
@[simp] theorem fAug_eq {h : G2} : fAug i h fe env = match env[i]? with
  | some (some (.lf w)) => (fe env).bind fun y e => (match h (.lf w) y with
    | some z => .ok .nx (e.set i (some (.lf z)))
    | none => .bad)
  | _ => .bad := rfl
@[simp] theorem fRep_eq : fRep q2 fs fb env = (fs env).bind fun xs e => match vlfs xs with
  | some ws => if ws.length ≤ sizeLine then (fb e).bind fun y e' => (match y with
    | .lf (.int k) => if k.natAbs < 2 ^ 62 ∧ ws.length * k.toNat ≤ sizeLine then .ok (.lf (.list (List.replicate k.toNat ws).flatten)) e' else .bad
    | _ => .bad) else .bad
  | none => .bad := rfl
@[simp] theorem fLfO_eq : fLfO f env = (f env).bind fun x e => match x with
  | .lf w => .ok (.lf w) e
  | .pl _ _ => .bad := rfl
@[simp] theorem gCatT_t {xs ys : List PyData} : gCatT (.lf (.tuple xs)) (.lf (.tuple ys)) = if xs.length + ys.length ≤ sizeLine then some (.tuple (xs ++ ys)) else none := rfl
@[simp] theorem gAug_ii {a b : Int} : gAug (.lf (.int a)) (.lf (.int b)) = some (.int (a + b)) := rfl
@[simp] theorem fEnum_eq : fEnum fs env = (fs env).bind fun xs e => match xs with
  | [.lf (.list ws)] => .ok (enumW 0 ws) e
  | _ => .bad := rfl
/-- a comprehension of things of its own -/
theorem vLcO_inv {vs : List Nat} {gt : PyData → En → Option En} {tt : En → Rs Bool} {fe : En → Rs O} (P : Nat → List O → En → Prop) : ∀ (ws : List PyData) (k : Nat) (acc : List O) (env : En), P k acc env →
    (∀ i w acc e, ws[i]? = some w → P (k + i) acc e → ∃ e1 b e2, gt w (wipeE e vs) = some e1 ∧ tt e1 = .ok b e2 ∧ (b = false → P (k + i + 1) acc e2) ∧ (b = true → ∃ w' e3, fe e2 = .ok w' e3 ∧ acc.length < sizeLine ∧ P (k + i + 1) (acc ++ [w']) e3)) →
    ∃ acc' e', vLcO vs gt tt fe ws acc env = .ok acc' e' ∧ P (k + ws.length) acc' e'
  | [], k, acc, env, h0, _ => ⟨acc, env, rfl, h0⟩
  | w :: ws, k, acc, env, h0, hs => by
    obtain ⟨e1, b, e2, h1, h2, h3, h4⟩ := hs 0 w acc env rfl h0
    have next : ∀ acc2 e, P (k + 1) acc2 e → ∃ acc' e', vLcO vs gt tt fe ws acc2 e = .ok acc' e' ∧ P (k + 1 + ws.length) acc' e' := fun acc2 e hp => vLcO_inv P ws (k + 1) acc2 e hp fun i w a e hi hp => by
      have := hs (i + 1) w a e (by simpa using hi) (by rw [show k + (i + 1) = k + 1 + i by omega]; exact hp)
      rw [show k + (i + 1) + 1 = k + 1 + i + 1 by omega] at this
      exact this
    rw [List.length_cons, show k + (ws.length + 1) = k + 1 + ws.length by omega, vLcO, h1]
    dsimp only
    rw [h2]
    cases b with
    | false =>
      obtain ⟨a', e', h5, h6⟩ := next acc e2 (h3 rfl)
      exact ⟨a', e', by simpa [noEx] using h5, h6⟩
    | true =>
      obtain ⟨w', e3, h7, h8, h9⟩ := h4 rfl
      obtain ⟨a', e', h5, h6⟩ := next (acc ++ [w']) e3 h9
      refine ⟨a', e', ?_, h6⟩
      simp [noEx, h7, h8, h5]
end
end MV
set_option Elab.async false
set_option linter.all false
set_option maxRecDepth 100000
set_option maxHeartbeats 4000000
/-! Loops over mapped lists, folds, comprehensions with a filter. -/
namespace MV
open PySem PySem.Spec PyProof.Rows L2
section
variable {α σ : Type} {gt : PyData → En → Option En} {body : En → Rs Fl} {vs : List Nat} {tt : En → Rs Bool} {fe : En → Rs Vl}
theorem vFor_fold (f : α → PyData) (step : σ → α → σ) (I : σ → En → Prop) : ∀ (xs : List α) (s : σ) (env : En), I s env →
    (∀ x ∈ xs, ∀ s e, I s e → ∃ e1 e2, gt (f x) e = some e1 ∧ (body e1 = .ok .nx e2 ∨ body e1 = .ok .ct e2) ∧ I (step s x) e2) →
    ∃ e', vFor gt body (xs.map f) env = .ok .nx e' ∧ I (xs.foldl step s) e'
  | [], s, env, h0, _ => ⟨env, rfl, h0⟩
  | x :: xs, s, env, h0, hs => by
    obtain ⟨e1, e2, h1, h2, h3⟩ := hs x List.mem_cons_self s env h0
    obtain ⟨e', h4, h5⟩ := vFor_fold f step I xs (step s x) e2 h3 fun y hy => hs y (List.mem_cons_of_mem _ hy)
    refine ⟨e', ?_, h5⟩
    rw [List.map_cons, vFor, h1]
    rcases h2 with h2 | h2 <;> simp only [h2, h4]
/-- with the place in the list -/
theorem vFor_map (f : α → PyData) (xs : List α) (I : Nat → En → Prop) (env : En) (h0 : I 0 env)
    (hs : ∀ i x e, xs[i]? = some x → I i e → ∃ e1 e2, gt (f x) e = some e1 ∧ (body e1 = .ok .nx e2 ∨ body e1 = .ok .ct e2) ∧ I (i + 1) e2) :
    ∃ e', vFor gt body (xs.map f) env = .ok .nx e' ∧ I xs.length e' := by
  obtain ⟨e', h1, h2⟩ := vFor_inv (gt := gt) (body := body) I (xs.map f) 0 env h0 fun i w e hi hp => by
    rw [List.getElem?_map] at hi
    cases hg : xs[i]? with
    | none => rw [hg] at hi; cases hi
    | some x =>
      rw [hg] at hi
      cases hi
      rw [Nat.zero_add] at hp ⊢
      exact hs i x e hg hp
  rw [List.length_map, Nat.zero_add] at h2
  exact ⟨e', h1, h2⟩
theorem vFor_rng (n : Nat) (I : Nat → En → Prop) (env : En) (h0 : I 0 env)
    (hs : ∀ i : Nat, i < n → ∀ e, I i e → ∃ e1 e2, gt (.int (i : Int)) e = some e1 ∧ (body e1 = .ok .nx e2 ∨ body e1 = .ok .ct e2) ∧ I (i + 1) e2) :
    ∃ e', vFor gt body (rng 0 n) env = .ok .nx e' ∧ I n e' := by
  obtain ⟨e', h1, h2⟩ := vFor_inv (gt := gt) (body := body) I (rng 0 n) 0 env h0 fun i w e hi hp => by
    obtain ⟨hin, rfl⟩ := rng_get hi
    rw [Nat.zero_add] at hp ⊢
    rw [Int.zero_add]
    exact hs i hin e hp
  rw [rng_len, Nat.zero_add] at h2
  exact ⟨e', h1, h2⟩
/-- a loop that may end by a return: at the first x at which P x -/
theorem vFor_find {f : α → PyData} (P : α → Bool) (r : α → O) (I : En → Prop) : ∀ (xs : List α) (env : En), I env →
    (∀ x ∈ xs, ∀ e, I e → ∃ e1, gt (f x) e = some e1 ∧ (P x = false → ∃ e2, (body e1 = .ok .nx e2 ∨ body e1 = .ok .ct e2) ∧ I e2) ∧ (P x = true → ∃ e2, body e1 = .ok (.ret (r x)) e2 ∧ I e2)) →
    ∃ e', I e' ∧ vFor gt body (xs.map f) env = .ok (match xs.find? P with | some x => .ret (r x) | none => .nx) e'
  | [], env, h0, _ => ⟨env, h0, rfl⟩
  | x :: xs, env, h0, hs => by
    obtain ⟨e1, h1, h2, h3⟩ := hs x List.mem_cons_self env h0
    rw [List.map_cons, vFor, h1]
    dsimp only
    cases hp : P x with
    | true =>
      obtain ⟨e2, h4, h5⟩ := h3 hp
      exact ⟨e2, h5, by rw [h4, List.find?_cons_of_pos hp]⟩
    | false =>
      obtain ⟨e2, h4, h5⟩ := h2 hp
      obtain ⟨e', h6, h7⟩ := vFor_find P r I xs e2 h5 fun y hy e he => hs y (List.mem_cons_of_mem _ hy) e he
      refine ⟨e', h6, ?_⟩
      rw [List.find?_cons_of_neg (by rw [hp]; exact Bool.false_ne_true)]
      rcases h4 with h4 | h4 <;> rw [h4] <;> exact h7
/-- a comprehension: what is kept, and what is made of it -/
theorem vLc_fm {f : α → PyData} (p : α → Bool) (g : α → PyData) (I : En → Prop) (xs : List α) (env : En) (h0 : I env) (hl : xs.length ≤ sizeLine)
    (hs : ∀ x ∈ xs, ∀ e, I e → ∃ e1 e2, gt (f x) (wipeE e vs) = some e1 ∧ tt e1 = .ok (p x) e2 ∧ (p x = false → I e2) ∧ (p x = true → ∃ e3, fe e2 = .ok (.lf (g x)) e3 ∧ I e3)) :
    ∃ e', I e' ∧ vLc vs gt tt fe (xs.map f) [] env = .ok ((xs.filter p).map g) e' := by
  obtain ⟨acc, e', h1, h2, h3⟩ := vLc_inv (vs := vs) (gt := gt) (tt := tt) (fe := fe) (fun i acc e => acc = ((xs.take i).filter p).map g ∧ I e) (xs.map f) 0 [] env ⟨by simp, h0⟩ fun i w acc e hi hp => by
    rw [List.getElem?_map] at hi
    cases hg : xs[i]? with
    | none => rw [hg] at hi; cases hi
    | some x =>
    rw [hg] at hi
    cases hi
    obtain ⟨rfl, he⟩ := hp
    obtain ⟨e1, e2, h1, h2, h3, h4⟩ := hs x (List.mem_of_getElem? hg) e he
    have hil := (List.getElem?_eq_some_iff.mp hg).1
    refine ⟨e1, p x, e2, h1, h2, fun z => ⟨?_, h3 z⟩, fun z => ?_⟩
    · rw [Nat.zero_add, List.take_add_one, hg]; simp [z]
    · obtain ⟨e3, h5, h6⟩ := h4 z
      refine ⟨g x, e3, h5, ?_, ?_, h6⟩
      · rw [List.length_map]
        refine Nat.lt_of_le_of_lt (List.length_filter_le _ _) ?_
        rw [List.length_take]
        omega
      · rw [Nat.zero_add, List.take_add_one, hg]; simp [z]
  rw [List.length_map, Nat.zero_add, List.take_length] at h2
  exact ⟨e', h3, by rw [h1, h2]⟩
/-- without a filter -/
theorem vLc_map {f : α → PyData} (g : α → PyData) (I : En → Prop) (xs : List α) (env : En) (h0 : I env) (hl : xs.length ≤ sizeLine)
    (hs : ∀ x ∈ xs, ∀ e, I e → ∃ e1 e2 e3, gt (f x) (wipeE e vs) = some e1 ∧ tt e1 = .ok true e2 ∧ fe e2 = .ok (.lf (g x)) e3 ∧ I e3) :
    ∃ e', I e' ∧ vLc vs gt tt fe (xs.map f) [] env = .ok (xs.map g) e' := by
  obtain ⟨e', h1, h2⟩ := vLc_fm (vs := vs) (gt := gt) (tt := tt) (fe := fe) (f := f) (fun _ => true) g I xs env h0 hl fun x hx e he => by
    obtain ⟨e1, e2, e3, h1, h2, h3, h4⟩ := hs x hx e he
    exact ⟨e1, e2, h1, h2, (fun z => nomatch z), fun _ => ⟨e3, h3, h4⟩⟩
  rw [List.filter_eq_self.mpr (fun _ _ => rfl)] at h2
  exact ⟨e', h1, h2⟩
theorem rng_map (n : Nat) : rng 0 n = (List.range n).map fun i : Nat => .int (i : Int) := by
  unfold rng
  refine List.map_congr_left fun i _ => ?_
  rw [Int.zero_add]
end
end MV
set_option Elab.async false
set_option linter.all false
set_option maxRecDepth 100000
set_option maxHeartbeats 4000000
/-! Instances: their fields read and stored. -/
namespace MV
open PySem PySem.Spec PyProof.Rows L2
section
variable {α : Type}
theorem lookup_at : ∀ {vs : List (Str × α)} {j : Nat} {f : Str} {v : α}, (vs.map (·.1)).Nodup → vs[j]? = some (f, v) → vs.lookup f = some v
  | [], j, f, v, _, h => by simp at h
  | (g, x) :: vs, 0, f, v, _, h => by
    simp at h; obtain ⟨rfl, rfl⟩ := h
    rw [List.lookup_cons]; simp
  | (g, x) :: vs, j + 1, f, v, nd, h => by
    simp only [List.map_cons, List.nodup_cons] at nd
    have h : vs[j]? = some (f, v) := by simpa using h
    have hne : ¬ f = g := fun e => nd.1 (by rw [← e]; exact List.mem_map.mpr ⟨_, List.mem_of_getElem? h, rfl⟩)
    rw [List.lookup_cons, beq_eq_false_iff_ne.mpr hne]
    exact lookup_at nd.2 h
theorem lookup_no : ∀ {vs : List (Str × α)} {f : Str}, f ∉ vs.map (·.1) → vs.lookup f = none
  | [], f, _ => rfl
  | (g, x) :: vs, f, h => by
    simp only [List.map_cons, List.mem_cons, not_or] at h
    rw [List.lookup_cons, beq_eq_false_iff_ne.mpr h.1]
    exact lookup_no h.2
theorem putF_at : ∀ {vs : List (Str × V)} {j : Nat} {f : Str} {v y : V}, (vs.map (·.1)).Nodup → vs[j]? = some (f, v) → putF f y vs = vs.set j (f, y)
  | [], j, f, v, y, _, h => by simp at h
  | (g, x) :: vs, 0, f, v, y, _, h => by
    simp at h; obtain ⟨rfl, rfl⟩ := h
    rw [putF, if_pos rfl]; rfl
  | (g, x) :: vs, j + 1, f, v, y, nd, h => by
    simp only [List.map_cons, List.nodup_cons] at nd
    have h : vs[j]? = some (f, v) := by simpa using h
    have hne : ¬ g = f := fun e => nd.1 (by rw [e]; exact List.mem_map.mpr ⟨_, List.mem_of_getElem? h, rfl⟩)
    rw [putF, if_neg hne, putF_at nd.2 h]; rfl
theorem putF_new : ∀ {vs : List (Str × V)} {f : Str} {y : V}, f ∉ vs.map (·.1) → putF f y vs = vs ++ [(f, y)]
  | [], f, y, _ => rfl
  | (g, x) :: vs, f, y, h => by
    simp only [List.map_cons, List.mem_cons, not_or] at h
    rw [putF, if_neg (fun e => h.1 e.symm), putF_new h.2]; rfl
end
section
variable {X : Cx} {W : WX} {kp : Nat → Bool} {q q1 q2 q3 m : Bool} {e a b c tg iter elt o i : Expr} {es rest ifs : List Expr} {pos tpos pos' : Pos} {f fa fb fc fe fo fi : En → Rs Vl} {K : PySem.W.Frag} {mg : Str → Option Value}
/-! ### reading -/
theorem lens_ins {ω : Om} {σ : L2.St} {H : Hp} {p : List Nat} {v u : V} {n : Str} {os : List (Str × O)} {o : O} {up : O → En} {j : Nat} {f : Str} (L : Lens K ω σ H p v up) (r : RO K ω H p v (.ins n os)) (hp : ∃ a z, p = a :: z)
    (ho : os[j]? = some (f, o)) : ∀ C dx vs a, v = .ref a → H a = some (.ins C dx vs) → vs[j]? = some (f, u) → Lens K ω σ H (p ++ [j]) u fun o' => up (.ins n (os.set j (f, o'))) := by
  intro C dx vs a hv hH hu B ω' H' o' h1 h2 h3 h4 h5 h6 h7
  subst hv
  cases r with
  | @ins _ _ _ _ _ vs' _ e1 e2 ic l kk g =>
    rw [hH] at e2; cases e2
    have np : ¬ (p ++ [j]) <+: p := fun ⟨t, ht⟩ => by
      have := congrArg List.length ht
      simp at this
    obtain ⟨w1, w2⟩ := h1 a _ p e1 np hH
    have hlt : j < os.length := (List.getElem?_eq_some_iff.mp ho).1
    refine L B ω' H' _ (fun a x r z n e => h1 a x r z (fun ⟨t, ht⟩ => n ⟨[j] ++ t, by rw [← ht]; simp⟩) e) h2 ?_ h4 h5 (fun r q e => ?_) h7
    · refine .ins w1 w2 ic (by simpa using l) (fun i k v' k' o2 z1 z2 => ?_) fun i k v' k' o2 z1 z2 => ?_
      · by_cases hij : i = j
        · subst hij
          rw [List.getElem?_set_self hlt] at z2; cases z2
          exact kk i k v' f o z1 ho
        · rw [List.getElem?_set_ne (Ne.symm hij)] at z2
          exact kk i k v' k' o2 z1 z2
      · by_cases hij : i = j
        · subst hij
          rw [hu] at z1; cases z1
          rw [List.getElem?_set_self hlt] at z2; cases z2
          exact h3
        · rw [List.getElem?_set_ne (Ne.symm hij)] at z2
          refine (g i k v' k' o2 z1 z2).tr _ (fun a x r z e => h1 a x _ z (fun ⟨t, ht⟩ => hij ?_) e) h2
          simp only [List.append_assoc, List.append_cancel_left_eq, List.cons_append, List.nil_append, List.cons.injEq] at ht
          exact ht.1.symm
    · obtain ⟨a', z, hz⟩ := hp
      exact h6 r (q ++ [j]) (by rw [e]; rfl)
/-- the field f, the j-th -/
def gFld (j : Nat) (f : Str) : Vl → Option Vl := fun x => match x with
  | .pl (.ins n os) up => match os[j]? with
    | some (g, o) => if g = f then (match o with
      | .lf w => some (.lf w)
      | o => some (.pl o fun o' => up (.ins n (os.set j (f, o'))))) else none
    | none => none
  | _ => none
def fUnV (g : Vl → Option Vl) (fa : En → Rs Vl) : En → Rs Vl := fun env => (fa env).bind fun x e => match g x with
  | some z => .ok z e
  | none => .bad
theorem ve_fld {j : Nat} {x : Str} (h : VE X W q e fe) (hb : attributeBase e x X.env (eval e X.env) = eval e X.env := by rfl) : VE X W q (.Attribute e x pos) (fUnV (gFld j x) fe) := by
  obtain ⟨te, pe, se⟩ := h.ex
  refine ⟨_, pe_fld pe hb, ⟨fun hq env y e z => ?_, fun B ω σ H env Q G z => se.run B ω σ H env _ G ((EPost.bind (q1 := q) (q2 := true) (by rw [Bool.and_true]; exact z)).imp fun y e1 ω1 H1 _ ev1 qu1 G1 h1 => fun v rv => ?_)⟩⟩
  · obtain ⟨a, e1, z1, z2⟩ := Rs.bind_st (env := env) z
    split at z2 <;> cases z2
    exact se.st hq _ _ _ z1
  · split at h1
    · rename_i z hz
      unfold gFld at hz
      split at hz
      · rename_i n os up
        obtain ⟨p, ro, L, hp, hup⟩ := rv
        have ro' := ro
        cases ro' with
        | @ins _ a C dx _ vs _ e1' e2 ic l kk g =>
          split at hz
          · rename_i f' o ho
            split at hz
            · rename_i hf
              subst hf
              have hlt : j < vs.length := by rw [l]; exact (List.getElem?_eq_some_iff.mp ho).1
              obtain ⟨u, hu⟩ : ∃ u, vs[j]? = some (f', u) := by
                refine ⟨vs[j].2, ?_⟩
                have hg : vs[j]? = some vs[j] := by simp [hlt]
                rw [hg, ← kk j vs[j].1 vs[j].2 f' o hg ho]
              have ru := g j f' u f' o hu ho
              refine ⟨a, C, dx, vs, u, rfl, e2, ic.cl, ic.na j f' u hu, lookup_at ic.nd hu, ?_⟩
              split at hz
              · cases hz
                cases ru with
                | lf r => exact h1 ω1 H1 (.refl _ _) (fun _ => .refl _ _) G1 u r
              · cases hz
                refine h1 ω1 H1 (.refl _ _) (fun _ => .refl _ _) G1 u ⟨p ++ [j], ru, lens_ins L ro hp ho C dx vs a rfl e2 hu, ?_, fun o' => hup _⟩
                obtain ⟨r, z, hz⟩ := hp
                exact ⟨r, z ++ [j], by rw [hz]; rfl⟩
            · cases hz
          · cases hz
      · cases hz
    · exact h1.elim
/-! ### storing -/
def putO (n : Str) (j : Nat) (f : Str) (m : Str) (os : List (Str × O)) (o : O) : Option (List (Str × O)) :=
  match os[j]? with
  | some (g, _) => if g = f ∧ os.length < 1000 then some (os.set j (f, o)) else none
  | none => if os.length = j ∧ m = n ∧ j < 1000 ∧ (os.all fun p => !(p.1 == f)) = true then some (os ++ [(f, o)]) else none
theorem ins_put {B B' : Nat} {ω : Om} {σ : L2.St} {H : Hp} {env : En} {v : V} {n m f : Str} {j : Nat} {os os' : List (Str × O)} {o : O} {up : O → En} (G : Good K B ω σ H env) (r : RV K ω σ H v (.pl (.ins m os) up))
    (hn : ∀ C, PySem.W.nsIn K PySem.mainGlobals n = some (some (.ref C)) → NoAttr K C f) (hp : putO n j f m os o = some os') : ∃ a C dx vs p, v = .ref a ∧ ω a = .mine p ∧ H a = some (.ins C dx vs) ∧ Cls K C ∧ NoAttr K C f ∧ vs.length < 1000 ∧ (∃ r q, p = r :: q) ∧
    ∀ ω3 y, (∀ b x q, ω b = .mine q → H b = some x → ω3 b = .mine q) → (∀ b x, H b = some x → ω b = .fr → ω3 b = .fr) → RO K ω3 (upd H a (.ins C dx (putF f y vs))) (p ++ [j]) y o → (∀ b q, ω3 b = .mine q → ∃ r z, q = r :: z ∧ r < B') → (∀ b, Nw (H b) → ω3 b = .fr) → B ≤ B' → Good K B' ω3 σ (upd H a (.ins C dx (putF f y vs))) (up (.ins m os')) := by
  obtain ⟨p, ro, L, hpp, hup⟩ := r
  cases ro with
  | @ins _ a C dx _ vs _ e1 e2 ic l kk g =>
    have hlen : vs.length < 1000 := by
      unfold putO at hp
      split at hp
      · split at hp
        · rename_i h; rw [l]; exact h.2
        · cases hp
      · split at hp
        · rename_i h; rw [l]; omega
        · cases hp
    have hna : NoAttr K C f := by
      unfold putO at hp
      split at hp
      · rename_i f' o' ho
        split at hp
        · rename_i h
          obtain ⟨rfl, _⟩ := h
          have hlt : j < vs.length := by rw [l]; exact (List.getElem?_eq_some_iff.mp ho).1
          have hg : vs[j]? = some vs[j] := by simp [hlt]
          have := kk j vs[j].1 vs[j].2 f' o' hg ho
          rw [← this]
          exact ic.na j _ vs[j].2 hg
        · cases hp
      · split at hp
        · rename_i h
          obtain ⟨_, rfl, _⟩ := h
          exact hn C ic.nm
        · cases hp
    refine ⟨a, C, dx, vs, p, rfl, e1, e2, ic.cl, hna, hlen, hpp, fun ω3 y k1 k2 k3 k4 k5 hB => ?_⟩
    have hne : ∀ b x q, ω b = .mine (p ++ q) → q ≠ [] → H b = some x → b ≠ a := fun b x q z hq _ t => by
      rw [t, e1] at z
      have := congrArg (fun w => match w with | Ow.mine l => l.length | _ => 0) z
      simp at this
      exact hq this
    have hnf : ∀ b, ω b = .fr → b ≠ a := fun b z t => by rw [t, e1] at z; cases z
    have key : ICls K m C (putF f y vs) ∧ (putF f y vs).length = os'.length ∧ (∀ (i : Nat) k v k' o, (putF f y vs)[i]? = some (k, v) → os'[i]? = some (k', o) → k = k') ∧ (∀ (i : Nat) k v k' o, (putF f y vs)[i]? = some (k, v) → os'[i]? = some (k', o) → RO K ω3 (upd H a (.ins C dx (putF f y vs))) (p ++ [i]) v o) := by
      have old : ∀ (i : Nat) k v k' o, vs[i]? = some (k, v) → os[i]? = some (k', o) → RO K ω3 (upd H a (.ins C dx (putF f y vs))) (p ++ [i]) v o := fun i k v k' o z1 z2 =>
        (g i k v k' o z1 z2).tr _ (fun b x q z e => ⟨by simpa using k1 b x _ z e, by rw [upd_ne (hne b x ([i] ++ q) (by simpa using z) (by simp) e)]; exact e⟩) fun b x e z => ⟨k2 b x e z, by rw [upd_ne (hnf b z)]; exact e⟩
      unfold putO at hp
      split at hp
      · rename_i f' o' ho
        split at hp
        · rename_i h
          obtain ⟨rfl, _⟩ := h
          cases hp
          have hlt : j < vs.length := by rw [l]; exact (List.getElem?_eq_some_iff.mp ho).1
          have hlo : j < os.length := by rw [← l]; exact hlt
          obtain ⟨u, hu⟩ : ∃ u, vs[j]? = some (f', u) := by
            refine ⟨vs[j].2, ?_⟩
            have hg : vs[j]? = some vs[j] := by simp [hlt]
            rw [hg, ← kk j vs[j].1 vs[j].2 f' o' hg ho]
          rw [putF_at ic.nd hu] at k3 old ⊢
          refine ⟨⟨ic.nm, ic.cl, fun i f v z => ?_, ?_⟩, by simpa using l, fun i k v k' o z1 z2 => ?_, fun i k v k' o z1 z2 => ?_⟩
          · by_cases hij : i = j
            · subst hij
              rw [List.getElem?_set_self hlt] at z; cases z; exact hna
            · rw [List.getElem?_set_ne (Ne.symm hij)] at z; exact ic.na i f v z
          · rw [List.map_set]
            have hs : (vs.map (·.1)).set j f' = vs.map (·.1) := by
              apply List.ext_getElem?
              intro i
              by_cases hij : i = j
              · subst hij
                rw [List.getElem?_set_self (by simpa using hlt), List.getElem?_map, hu]; rfl
              · rw [List.getElem?_set_ne (Ne.symm hij)]
            rw [hs]; exact ic.nd
          · by_cases hij : i = j
            · subst hij
              rw [List.getElem?_set_self hlt] at z1; rw [List.getElem?_set_self hlo] at z2; cases z1; cases z2; rfl
            · rw [List.getElem?_set_ne (Ne.symm hij)] at z1 z2; exact kk i k v k' o z1 z2
          · by_cases hij : i = j
            · subst hij
              rw [List.getElem?_set_self hlt] at z1; rw [List.getElem?_set_self hlo] at z2; cases z1; cases z2; exact k3
            · rw [List.getElem?_set_ne (Ne.symm hij)] at z1 z2; exact old i k v k' o z1 z2
        · cases hp
      · split at hp
        · rename_i h
          obtain ⟨hj, rfl, _, hall⟩ := h
          cases hp
          have hnm : f ∉ vs.map (·.1) := fun hm => by
            obtain ⟨⟨k, v⟩, hmem, rfl⟩ := List.mem_map.mp hm
            obtain ⟨i, hi, hg⟩ := List.getElem_of_mem hmem
            have hg1 : vs[i]? = some (k, v) := by rw [List.getElem?_eq_getElem hi, hg]
            have hio : i < os.length := by rw [← l]; exact hi
            have hg2 : os[i]? = some os[i] := by simp [hio]
            have := kk i k v os[i].1 os[i].2 hg1 hg2
            rw [List.all_eq_true] at hall
            have := hall _ (List.getElem_mem hio)
            simp_all
          rw [putF_new hnm] at k3 old ⊢
          refine ⟨⟨ic.nm, ic.cl, fun i f v z => ?_, ?_⟩, by simp [l], fun i k v k' o z1 z2 => ?_, fun i k v k' o z1 z2 => ?_⟩
          · by_cases hij : i < vs.length
            · rw [List.getElem?_append_left hij] at z; exact ic.na i f v z
            · rw [List.getElem?_append_right (by omega)] at z
              have := (List.getElem?_eq_some_iff.mp z).1
              have h0 : i - vs.length = 0 := by simp at this; omega
              rw [h0] at z; simp at z; rw [← z.1]; exact hna
          · rw [List.map_append, List.nodup_append]
            refine ⟨ic.nd, by simp, fun x hx z hz => ?_⟩
            simp at hz; rw [hz]; exact fun e => hnm (e ▸ hx)
          · by_cases hij : i < vs.length
            · rw [List.getElem?_append_left hij] at z1; rw [List.getElem?_append_left (by omega)] at z2; exact kk i k v k' o z1 z2
            · rw [List.getElem?_append_right (by omega)] at z1 z2
              have := (List.getElem?_eq_some_iff.mp z1).1
              have h0 : i - vs.length = 0 := by simp at this; omega
              rw [h0] at z1; rw [← l, h0] at z2; simp at z1 z2; rw [← z1.1, ← z2.1]
          · by_cases hij : i < vs.length
            · rw [List.getElem?_append_left hij] at z1; rw [List.getElem?_append_left (by omega)] at z2; exact old i k v k' o z1 z2
            · rw [List.getElem?_append_right (by omega)] at z1 z2
              have := (List.getElem?_eq_some_iff.mp z1).1
              have h0 : i - vs.length = 0 := by simp at this; omega
              have hi : i = j := by omega
              rw [h0] at z1; rw [← l, h0] at z2; simp at z1 z2; rw [← z1.2, ← z2.2, hi]; exact k3
        · cases hp
    obtain ⟨c1, c2, c3, c4⟩ := key
    have hpa : ω3 a = .mine p := k1 a _ p e1 e2
    refine L B' ω3 _ _ (fun b x q z n e => ⟨k1 b x q z e, ?_⟩) (fun b x e z => ⟨k2 b x e z, by rw [upd_ne (hnf b z)]; exact e⟩) (.ins hpa upd_same c1 c2 c3 c4) k4 (fun b z => ?_) (fun r q e => ?_) ?_
    · have hba : b ≠ a := fun t => by
        rw [t, e1] at z; cases z
        exact n (List.prefix_refl _)
      rw [upd_ne hba]; exact e
    · by_cases hba : b = a
      · subst hba; rw [upd_same] at z; exact z.elim
      · rw [upd_ne hba] at z; exact k5 b z
    · obtain ⟨r', q', h1, h2⟩ := k4 a p hpa
      rw [e] at h1; cases h1; exact h2
    · rw [hup, G.len]; exact Nat.le_trans G.nB hB
def fPutF (n : Str) (j : Nat) (f : Str) (fe fo : En → Rs Vl) : En → Rs Fl := fun env => (fe env).bind fun x e => (fo e).bind fun o e1 => match o, x with
  | .pl (.ins m os) up, .lf w => match putO n j f m os (.lf w) with
    | some os' => .ok .nx (up (.ins m os'))
    | none => .bad
  | _, _ => .bad
theorem vs_fld {n : Str} {j : Nat} {f : Str} (hn : ∀ C, PySem.W.nsIn X.K PySem.mainGlobals n = some (some (.ref C)) → NoAttr X.K C f) (he : VE X W q e fe) (ho : VE X W true o fo) (hs : swapsWith e (some (.Attribute o f pos')) pos.line X.env = pure false := by rfl) :
    VS X W kp (.Assign [.Attribute o f pos'] e pos) (fPutF n j f fe fo) := by
  obtain ⟨te, pe, se⟩ := he.ex
  obtain ⟨to, po, so⟩ := ho.ex
  refine ⟨_, ps_fld po pe hs, fun B ω σ H env D G z => se.run B ω σ H env _ G ((SPost.bindE z).imp fun x e ω1 H1 _ ev qu G1 h1 => fun v rv => ?_)⟩
  refine so.run B ω1 σ H1 e _ G1 ((SPost.bindE (q := true) h1).imp fun o' e1 ω2 H2 ho' ev2 qu2 G2 h2 => fun ov ro => ?_)
  have heq := so.st rfl _ _ _ ho'
  subst heq
  split at h2
  · rename_i m os up w hfe
    split at h2
    · rename_i os' hp
      obtain ⟨a, C, dx, vs, p, rfl, k1, k2, k3, k4, k5, k6, key⟩ := ins_put (B' := B) G2 ro hn hp
      have rv2 : RW X.K ω2 H2 v w := RW.evo ev2 rv
      have hpa : ω2 a = .mine p := k1
      have G3 := key ω2 v (fun b x q z _ => z) (fun b x _ z => z) (.lf (rv2.beside hpa)) G2.root G2.wf (Nat.le_refl _)
      refine ⟨a, C, dx, vs, rfl, k2, k3, k4, k5, h2 ω2 σ _ ⟨fun b y e z => ?_, fun b y e z => ?_, fun _ z => z, fun b o u e => by rw [upd_ne (fun t => by rw [t, k2] at e; cases e)]; exact e⟩ (.refl _ _) G3⟩
      · have hne : b ≠ a := fun t => by rw [t, hpa] at z; cases z
        exact ⟨z, by rw [upd_ne hne]; exact e⟩
      · have hne : b ≠ a := fun t => by rw [t, hpa] at z; cases z
        exact ⟨z, by rw [upd_ne hne]; exact e⟩
    · exact h2.elim
  · exact h2.elim
theorem ins_na {ω : Om} {σ : L2.St} {H : Hp} {v : V} {m f : Str} {os : List (Str × O)} {up : O → En} {j : Nat} {o : O} (r : RV K ω σ H v (.pl (.ins m os) up)) (ho : os[j]? = some (f, o)) : ∀ C, PySem.W.nsIn K PySem.mainGlobals m = some (some (.ref C)) → NoAttr K C f := by
  obtain ⟨p, ro, _⟩ := r
  cases ro with
  | @ins _ a C dx _ vs _ e1 e2 ic l kk g =>
    intro C' h
    rw [ic.nm] at h
    cases h
    have hlt : j < vs.length := by rw [l]; exact (List.getElem?_eq_some_iff.mp ho).1
    have hg : vs[j]? = some vs[j] := by simp [hlt]
    rw [← kk j vs[j].1 vs[j].2 f o hg ho]
    exact ic.na j _ vs[j].2 hg
/-- o.f op= e -/
def fAugF (j : Nat) (f : Str) (g : G2) (fo fe : En → Rs Vl) : En → Rs Fl := fun env => (fo env).bind fun o e => match o with
  | .pl (.ins m os) up => match os[j]? with
    | some (f', .lf w) => if f' = f ∧ os.length < 1000 then ((fe e).bind fun y _ => match g (.lf w) y with
      | some z => .ok .nx (up (.ins m (os.set j (f, .lf z))))
      | none => .bad) else .bad
    | _ => .bad
  | _ => .bad
theorem vs_fldaug {j : Nat} {f : Str} {op : Operator} {r : R2} {g : G2} (hop : InOp X op r) (hs : OpS X.K r g) (ho : VE X W true o fo) (he : VE X W true e fe) : VS X W kp (.AugAssign (.Attribute o f tpos) op e pos) (fAugF j f g fo fe) := by
  obtain ⟨te, pe, se⟩ := he.ex
  obtain ⟨to, po, so⟩ := ho.ex
  refine ⟨_, ps_fldaug po pe hop, fun B ω σ H env D G z => so.run B ω σ H env _ G ((SPost.bindE (q := true) z).imp fun o' e1 ω1 H1 ho' ev1 qu1 G1 h1 => fun ov ro => ?_)⟩
  have heq := so.st rfl _ _ _ ho'
  subst heq
  split at h1
  · rename_i m os up
    split at h1
    · rename_i f' w ho
      split at h1
      · rename_i hf
        obtain ⟨rfl, hlen⟩ := hf
        have hn := ins_na ro ho
        have ro1 := ro
        obtain ⟨p, ro2, L, hp, hup⟩ := ro
        have ro3 := ro2
        cases ro2 with
        | @ins _ a C dx _ vs _ e1' e2 ic l kk g' =>
          have hlt : j < vs.length := by rw [l]; exact (List.getElem?_eq_some_iff.mp ho).1
          obtain ⟨u, hu⟩ : ∃ u, vs[j]? = some (f', u) := by
            refine ⟨vs[j].2, ?_⟩
            have hg : vs[j]? = some vs[j] := by simp [hlt]
            rw [hg, ← kk j vs[j].1 vs[j].2 f' _ hg ho]
          have ru := g' j f' u f' _ hu ho
          refine ⟨a, C, dx, vs, u, rfl, e2, ic.cl, ic.na j f' u hu, lookup_at ic.nd hu, ?_⟩
          refine se.run B ω1 σ H1 e1 _ G1 ((SPost.bindE (q := true) h1).imp fun y e3 ω2 H2 he' ev2 qu2 G2 h2 => fun v rv => ?_)
          have heq := se.st rfl _ _ _ he'
          subst heq
          split at h2
          · rename_i z hz
            have ru2 : RV X.K ω2 σ H2 u (.lf w) := by
              cases ru with
              | lf r => exact RW.evo ev2 r
            refine hs B ω2 σ H2 e3 u v (.lf w) y z _ G2 ru2 rv hz fun ω3 H3 x qu3 G3 rx => ?_
            have hq := (qu2 rfl).trans qu3
            have ro4 := ro1.quiet hq
            have hp4 : putO m j f' m os (.lf z) = some (os.set j (f', .lf z)) := by unfold putO; rw [ho]; simp [hlen]
            obtain ⟨a4, C4, dx4, vs4, p4, ha4, k1, k2, k3, k4, k5, k6, key⟩ := ins_put (B' := B) G3 ro4 hn hp4
            cases ha4
            have G5 := key ω3 x (fun b x q z _ => z) (fun b x _ z => z) (.lf (rx.beside k1)) G3.root G3.wf (Nat.le_refl _)
            have hH : H3 a = some (.ins C dx vs) := (hq.same a _ e2).1
            rw [hH] at k2
            cases k2
            refine ⟨dx, vs, hH, by rw [l]; exact hlen, h2 ω3 σ _ ⟨fun b y e z => ?_, fun b y e z => ?_, fun b z => qu3.back b z, fun b o u e => by
              have h5 := (qu3.same b _ e).1
              rw [upd_ne (fun t => by rw [t, hH] at h5; cases h5)]; exact h5⟩ (.refl _ _) G5⟩
            · have h5 := qu3.same b y e
              have hne : b ≠ a := fun t => by rw [t] at h5 z; rw [h5.2, z] at k1; cases k1
              exact ⟨h5.2.trans z, by rw [upd_ne hne]; exact h5.1⟩
            · have h5 := qu3.same b y e
              have hne : b ≠ a := fun t => by rw [t] at h5 z; rw [h5.2, z] at k1; cases k1
              exact ⟨h5.2.trans z, by rw [upd_ne hne]; exact h5.1⟩
          · exact h2.elim
      · exact h1.elim
    · exact h1.elim
  · exact h1.elim
end
end MV
set_option Elab.async false
set_option linter.all false
set_option maxRecDepth 100000
set_option maxHeartbeats 4000000
/-! Things at their places: own things put there, appended, popped, frozen. -/
namespace MV
open PySem PySem.Spec PyProof.Rows L2
section
variable {X : Cx} {W : WX} {kp : Nat → Bool} {q q1 q2 q3 m : Bool} {e a b c tg iter elt o i : Expr} {es rest ifs : List Expr} {pos tpos pos' : Pos} {f fa fb fc fe fo fi : En → Rs Vl} {h : En → Rs O} {K : PySem.W.Frag} {mg : Str → Option Value}
/-! ### a new thing is hidden while its place is sought, and shown there -/
def ωhid (B : Nat) (ω : Om) : Om := fun a => match ω a with
  | .mine (r :: z) => if r = B then .out else .mine (r :: z)
  | x => x
def ωshow (B : Nat) (p : List Nat) (ω1 ω2 : Om) : Om := fun a => match ω1 a with
  | .mine (r :: z) => if r = B then .mine (p ++ z) else ω2 a
  | _ => ω2 a
theorem hid_fr {B : Nat} {ω : Om} {a : Addr} (h : ω a = .fr) : ωhid B ω a = .fr := by unfold ωhid; rw [h]
theorem hid_out {B : Nat} {ω : Om} {a : Addr} (h : ω a = .out) : ωhid B ω a = .out := by unfold ωhid; rw [h]
theorem hid_B {B : Nat} {ω : Om} {a : Addr} {z : List Nat} (h : ω a = .mine (B :: z)) : ωhid B ω a = .out := by unfold ωhid; rw [h]; simp
theorem show_B {B : Nat} {p : List Nat} {ω ω2 : Om} {a : Addr} {z : List Nat} (h : ω a = .mine (B :: z)) : ωshow B p ω ω2 a = .mine (p ++ z) := by unfold ωshow; rw [h]; simp
theorem show_n {B : Nat} {p : List Nat} {ω ω2 : Om} {a : Addr} (h : ∀ z, ω a ≠ .mine (B :: z)) : ωshow B p ω ω2 a = ω2 a := by
  unfold ωshow
  split
  · rename_i r z hz
    split
    · rename_i hr; rw [hr] at hz; exact absurd hz (h z)
    · rfl
  · rfl
theorem isB (B : Nat) (ω : Om) (a : Addr) : (∃ z, ω a = .mine (B :: z)) ∨ ∀ z, ω a ≠ .mine (B :: z) := by
  by_cases h : ∃ z, ω a = .mine (B :: z)
  · exact .inl h
  · exact .inr fun z hz => h ⟨z, hz⟩
theorem Good.hide {B : Nat} {ω : Om} {σ : L2.St} {H : Hp} {env : En} (G : Good K (B + 1) ω σ H env) (hl : env.length ≤ B) : Good K B (ωhid B ω) σ H env := by
  refine ⟨fun i o e => ?_, fun a p z => ?_, fun a z => hid_fr (G.wf a z), hl, G.len⟩
  · obtain ⟨v, h1, h2⟩ := G.rel i o e
    have hi : i ≠ B := by
      have := (List.getElem?_eq_some_iff.mp e).1
      omega
    refine ⟨v, h1, h2.tr [i] (fun a x q z y => ⟨?_, y⟩) fun a x y z => ⟨hid_fr z, y⟩⟩
    unfold ωhid
    rw [show ω a = .mine (i :: q) from z]
    simp [hi]
  · unfold ωhid at z
    split at z
    · rename_i r q hr
      split at z
      · cases z
      · cases z
        obtain ⟨r', q', h1, h2⟩ := G.root a _ hr
        cases h1
        exact ⟨r, q, rfl, by omega⟩
    · rename_i hn
      obtain ⟨r', q', h1, h2⟩ := G.root a p z
      exact absurd (z.trans (congrArg Ow.mine h1)) (hn r' q')
theorem mine_not_nw {B : Nat} {ω : Om} {σ : L2.St} {H : Hp} {env : En} (G : Good K B ω σ H env) {a : Addr} {p : List Nat} (h : ω a = .mine p) : ∃ x, H a = some x ∧ ¬ Nw (H a) := by
  have hn : ¬ Nw (H a) := fun t => by rw [G.wf a t] at h; cases h
  cases e : H a with
  | none => rw [e] at hn; exact (hn trivial).elim
  | some x => exact ⟨x, rfl, by rw [← e]; exact hn⟩
structure Shown (K : PySem.W.Frag) (B : Nat) (p : List Nat) (ω1 : Om) (H1 : Hp) (ω2 : Om) (H2 : Hp) : Prop where
  keep : ∀ b x q, ω2 b = .mine q → H2 b = some x → ωshow B p ω1 ω2 b = .mine q
  fr : ∀ b x, H2 b = some x → ω2 b = .fr → ωshow B p ω1 ω2 b = .fr
  ro : ∀ v o, RO K ω1 H1 [B] v o → RO K (ωshow B p ω1 ω2) H2 p v o
  evo : Evo ω1 H1 (ωshow B p ω1 ω2) H2
  wf : ∀ b, Nw (H2 b) → ωshow B p ω1 ω2 b = .fr
  sep : ∀ b z, ω1 b = .mine (B :: z) → ω2 b = .out ∧ H2 b = H1 b
theorem shown {B : Nat} {p : List Nat} {ω1 ω2 : Om} {σ : L2.St} {H1 H2 : Hp} {env env2 : En} (G : Good K (B + 1) ω1 σ H1 env) (qu : Quiet (ωhid B ω1) H1 ω2 H2) (G2 : Good K B ω2 σ H2 env2) : Shown K B p ω1 H1 ω2 H2 := by
  have sep : ∀ b z, ω1 b = .mine (B :: z) → ω2 b = .out ∧ H2 b = H1 b := fun b z h => by
    obtain ⟨x, hx, _⟩ := mine_not_nw G h
    obtain ⟨h1, h2⟩ := qu.same b x hx
    exact ⟨h2.trans (hid_B h), h1.trans hx.symm⟩
  have keepO : ∀ b, ω2 b ≠ .out → ωshow B p ω1 ω2 b = ω2 b := fun b h => show_n fun z hz => h (sep b z hz).1
  refine ⟨fun b x q z e => (keepO b (by rw [z]; exact fun t => nomatch t)).trans z, fun b x e z => (keepO b (by rw [z]; exact fun t => nomatch t)).trans z, fun v o r => ?_, ⟨fun a x e z => ?_, fun a x e z => ?_, fun a z => ?_, fun a o u e => (qu.same a _ e).1⟩, fun b z => ?_, sep⟩
  · refine r.tr p (fun a x z y e => ⟨show_B y, ?_⟩) fun a x e y => ?_
    · rw [(sep a z y).2]; exact e
    · obtain ⟨h1, h2⟩ := qu.same a x e
      have h3 : ω2 a = .fr := h2.trans (hid_fr y)
      exact ⟨(keepO a (by rw [h3]; exact fun t => nomatch t)).trans h3, h1⟩
  · obtain ⟨h1, h2⟩ := qu.same a x e
    have h3 : ω2 a = .fr := h2.trans (hid_fr z)
    exact ⟨(keepO a (by rw [h3]; exact fun t => nomatch t)).trans h3, h1⟩
  · obtain ⟨h1, h2⟩ := qu.same a x e
    have h3 : ω2 a = .out := h2.trans (hid_out z)
    exact ⟨(show_n fun z' hz => by rw [z] at hz; cases hz).trans h3, h1⟩
  · rcases isB B ω1 a with ⟨z', hz⟩ | hz
    · rw [show_B hz] at z; cases z
    · rw [show_n hz] at z
      have := qu.back a z
      unfold ωhid at this
      split at this
      · rename_i r q' hr
        split at this
        · rename_i hrB; rw [hrB] at hr; exact absurd hr (hz q')
        · cases this
      · exact this
  · rcases isB B ω1 b with ⟨z', hz⟩ | hz
    · obtain ⟨x, hx, hnw⟩ := mine_not_nw G hz
      rw [(sep b z' hz).2] at z
      exact (hnw z).elim
    · rw [show_n hz]; exact G2.wf b z
theorem Shown.root {B : Nat} {p : List Nat} {ω1 ω2 : Om} {H1 H2 : Hp} (h : Shown K B p ω1 H1 ω2 H2) (hp : ∃ r z, p = r :: z ∧ r < B) (hr : ∀ b q, ω2 b = .mine q → ∃ r z, q = r :: z ∧ r < B) : ∀ b q, ωshow B p ω1 ω2 b = .mine q → ∃ r z, q = r :: z ∧ r < B := fun b q z => by
  rcases isB B ω1 b with ⟨z', hz⟩ | hz
  · rw [show_B hz] at z
    cases z
    obtain ⟨r, y, rfl, hlt⟩ := hp
    exact ⟨r, y ++ z', rfl, hlt⟩
  · rw [show_n hz] at z; exact hr b q z
/-! ### o.f = a thing of one's own -/
def fPutFO (n : Str) (j : Nat) (f : Str) (h : En → Rs O) (fo : En → Rs Vl) : En → Rs Fl := fun env => (h env).bind fun o e => match fo e with
  | .ok (.pl (.ins m os) up) _ => match putO n j f m os o with
    | some os' => .ok .nx (up (.ins m os'))
    | none => .bad
  | _ => .bad
theorem vs_fldO {n : Str} {j : Nat} {f : Str} (hn : ∀ C, PySem.W.nsIn X.K PySem.mainGlobals n = some (some (.ref C)) → NoAttr X.K C f) (he : VO X W e h) (ho : VE X W true o fo) (hs : swapsWith e (some (.Attribute o f pos')) pos.line X.env = pure false := by rfl) :
    VS X W kp (.Assign [.Attribute o f pos'] e pos) (fPutFO n j f h fo) := by
  obtain ⟨te, pe, se⟩ := he.ex
  obtain ⟨to, po, so⟩ := ho.ex
  refine ⟨_, ps_fld po pe hs, fun B ω σ H env D G z => se B ω σ H env _ G (SPost.bindO z fun o e _ ω1 H1 v ev G1 r h1 => ?_)⟩
  have hlen : e.length ≤ B := by rw [← G1.len, G.len]; exact G.nB
  refine so.run B (ωhid B ω1) σ H1 e _ (G1.hide hlen) ?_
  cases hfo : fo e with
  | bad => rw [hfo] at h1; exact h1.elim
  | ex c e' => rw [hfo] at h1; exact h1.elim
  | ok x e' =>
    rw [hfo] at h1
    intro ω2 H2 ev2 qu2 G2 ov ro
    have heq := so.st rfl _ _ _ hfo
    subst heq
    cases x with
    | lf w => exact h1.elim
    | pl o' up =>
      cases o' with
      | ins m os =>
        have h1 : SPost X.K X.mg W kp B ω σ H D (match putO n j f m os o with | some os' => .ok .nx (up (.ins m os')) | none => .bad) := h1
        split at h1
        · rename_i os' hp
          obtain ⟨a, C, dx, vs, p, rfl, k1, k2, k3, k4, k5, k6, key⟩ := ins_put (B' := B) G2 ro hn hp
          have sh := shown (p := p ++ [j]) G1 (qu2 rfl) G2
          have hpr := G2.root a p k1
          have hr : ∃ r z, p ++ [j] = r :: z ∧ r < B := by obtain ⟨r, z, rfl, hlt⟩ := hpr; exact ⟨r, z ++ [j], rfl, hlt⟩
          have hω3a : ωshow B (p ++ [j]) ω1 ω2 a = .mine p := sh.keep a _ p k1 k2
          have G3 := key (ωshow B (p ++ [j]) ω1 ω2) v sh.keep sh.fr ((sh.ro v o r).kid hω3a) (sh.root hr G2.root) sh.wf (Nat.le_refl _)
          refine ⟨a, C, dx, vs, rfl, k2, k3, k4, k5, h1 _ σ _ (ev.trans ⟨fun b y e z => ?_, fun b y e z => ?_, fun b z => sh.evo.back b z, fun b o u e => by
            have h5 := sh.evo.frz b o u e
            rw [upd_ne (fun t => by rw [t, k2] at h5; cases h5)]; exact h5⟩) (.refl _ _) G3⟩
          · obtain ⟨h5, h6⟩ := sh.evo.fr b y e z
            have hne : b ≠ a := fun t => by rw [t, hω3a] at h5; cases h5
            exact ⟨h5, by rw [upd_ne hne]; exact h6⟩
          · obtain ⟨h5, h6⟩ := sh.evo.out b y e z
            have hne : b ≠ a := fun t => by rw [t, hω3a] at h5; cases h5
            exact ⟨h5, by rw [upd_ne hne]; exact h6⟩
        · exact h1.elim
      | _ => exact h1.elim
/-! ### lists at their places -/
theorem lst_putG {B B' : Nat} {ω : Om} {σ : L2.St} {H : Hp} {env : En} {v : V} {os : List O} {up : O → En} (G : Good K B ω σ H env) (r : RV K ω σ H v (.pl (.lst os) up)) : ∃ a vs p, v = .ref a ∧ ω a = .mine p ∧ H a = some (.lst vs) ∧ vs.length = os.length ∧ (∃ r q, p = r :: q) ∧
    ∀ ω3 vs' os', (∀ b x q, ω b = .mine q → H b = some x → ω3 b = .mine q) → (∀ b x, H b = some x → ω b = .fr → ω3 b = .fr) → vs'.length = os'.length → (∀ (j : Nat) v o, vs'[j]? = some v → os'[j]? = some o → (vs[j]? = some v ∧ os[j]? = some o) ∨ RO K ω3 (upd H a (.lst vs')) (p ++ [j]) v o) → (∀ b q, ω3 b = .mine q → ∃ r z, q = r :: z ∧ r < B') → (∀ b, Nw (H b) → ω3 b = .fr) → B ≤ B' → Good K B' ω3 σ (upd H a (.lst vs')) (up (.lst os')) := by
  obtain ⟨p, ro, L, hpp, hup⟩ := r
  cases ro with
  | @lst _ a vs _ e1 e2 l g =>
    refine ⟨a, vs, p, rfl, e1, e2, l, hpp, fun ω3 vs' os' k1 k2 hl hk k4 k5 hB => ?_⟩
    have hnf : ∀ b, ω b = .fr → b ≠ a := fun b z t => by rw [t, e1] at z; cases z
    have hpa : ω3 a = .mine p := k1 a _ p e1 e2
    refine L B' ω3 _ _ (fun b x q z n e => ⟨k1 b x q z e, ?_⟩) (fun b x e z => ⟨k2 b x e z, by rw [upd_ne (hnf b z)]; exact e⟩) (.lst hpa upd_same hl fun j v o h1 h2 => ?_) k4 (fun b z => ?_) (fun r q e => ?_) ?_
    · have hba : b ≠ a := fun t => by
        rw [t, e1] at z; cases z
        exact n (List.prefix_refl _)
      rw [upd_ne hba]; exact e
    · rcases hk j v o h1 h2 with ⟨h3, h4⟩ | h3
      · refine (g j v o h3 h4).tr _ (fun b x q z e => ⟨by simpa using k1 b x _ z e, ?_⟩) fun b x e z => ⟨k2 b x e z, by rw [upd_ne (hnf b z)]; exact e⟩
        have hba : b ≠ a := fun t => by
          rw [t, e1] at z
          have := congrArg (fun w => match w with | Ow.mine l => l.length | _ => 0) z
          simp at this
        rw [upd_ne hba]; exact e
      · exact h3
    · by_cases hba : b = a
      · subst hba; rw [upd_same] at z; exact z.elim
      · rw [upd_ne hba] at z; exact k5 b z
    · obtain ⟨r', q', h1, h2⟩ := k4 a p hpa
      rw [e] at h1; cases h1; exact h2
    · rw [hup, G.len]; exact Nat.le_trans G.nB hB
theorem evo_upd {ω : Om} {H : Hp} {a : Addr} {u x : HO} {p : List Nat} (h : ω a = .mine p) (hH : H a = some x) (hx : NotFrz x := by exact trivial) : Evo ω H ω (upd H a u) :=
  ⟨fun b y e z => ⟨z, by rw [upd_ne (fun t => by rw [t, h] at z; cases z)]; exact e⟩, fun b y e z => ⟨z, by rw [upd_ne (fun t => by rw [t, h] at z; cases z)]; exact e⟩, fun _ z => z, fun b o u e => by rw [upd_ne (fun t => by rw [t, hH] at e; cases e; exact hx)]; exact e⟩
/-- the list's last thing, a frozen one, is taken off -/
def fPop (fo : En → Rs Vl) : En → Rs Vl := fun env => (fo env).bind fun x e => match x with
  | .pl (.lst os) up => match os.getLast? with
    | some (.lf w) => .ok (.lf w) (up (.lst os.dropLast))
    | _ => .bad
  | _ => .bad
theorem pop_run {B : Nat} {ω : Om} {σ : L2.St} {H : Hp} {env : En} {v : V} {os : List O} {up : O → En} {o : O} (G : Good K B ω σ H env) (r : RV K ω σ H v (.pl (.lst os) up)) (hl : os.getLast? = some o) : ∃ a vs y p, v = .ref a ∧ ω a = .mine p ∧ H a = some (.lst vs) ∧ vs[vs.length - 1]? = some y ∧ (∀ w, o = .lf w → RW K ω (upd H a (.lst vs.dropLast)) y w) ∧ Good K B ω σ (upd H a (.lst vs.dropLast)) (up (.lst os.dropLast)) := by
  obtain ⟨a, vs, p, rfl, k1, k2, k3, k4, key⟩ := lst_putG (B' := B) G r
  rw [List.getLast?_eq_getElem?] at hl
  have hlt : vs.length - 1 < vs.length := by
    have := (List.getElem?_eq_some_iff.mp hl).1
    omega
  have hy : vs[vs.length - 1]? = some vs[vs.length - 1] := by simp [hlt]
  refine ⟨a, vs, _, p, rfl, k1, k2, hy, fun w hw => ?_, key ω vs.dropLast os.dropLast (fun b x q z _ => z) (fun b x _ z => z) (by simp [k3]) (fun j v o h1 h2 => ?_) G.root G.wf (Nat.le_refl _)⟩
  · subst hw
    obtain ⟨p', ro, _⟩ := r
    cases ro with
    | @lst _ _ vs' _ e1 e2 l g =>
      rw [k2] at e2; cases e2
      have := g (vs.length - 1) _ (.lf w) hy (by rw [k3]; exact hl)
      clear hy
      generalize vs[vs.length - 1] = y at this
      cases this with
      | lf r => exact r.beside k1
  · rw [List.getElem?_dropLast] at h1 h2
    split at h1
    · rename_i hj
      rw [if_pos (by rw [← k3]; exact hj)] at h2
      exact .inl ⟨h1, h2⟩
    · cases h1
theorem ve_pop {apos cpos : Pos} (ho : VE X W q o fo) (hline : (apos.endLine == cpos.line) = true := by rfl) (hb : attributeBase o "pop" X.env (eval o X.env) = eval o X.env := by rfl) : VE X W false (.Call (.Attribute o "pop" apos) [] [] cpos) (fPop fo) := by
  obtain ⟨to, po, so⟩ := ho.ex
  refine ⟨_, pe_bm0 PySem.F.plainAttrs_list PySem.F.slot_list_pop PySem.F.type_list_pop mt_pop po hb hline, ⟨fun hq => (nomatch hq), fun B ω σ H env Q G z => so.run B ω σ H env _ G ((EPost.bind (q1 := q) (q2 := false) (by rw [Bool.and_false]; exact z)).imp fun x e ω1 H1 _ ev1 qu1 G1 h1 => fun v rv => ?_)⟩⟩
  split at h1
  · rename_i os up
    split at h1
    · rename_i w hw
      refine ⟨ty_list rv, ?_⟩
      obtain ⟨a, vs, y, p, rfl, k1, k2, k3, k4, k5⟩ := pop_run G1 rv hw
      exact ⟨a, vs, y, rfl, rfl, k2, k3, h1 ω1 _ (evo_upd k1 k2) (fun hq => nomatch hq) k5 y (k4 w rfl)⟩
    · exact h1.elim
  · exact h1.elim
/-- .. any, and let go -/
def fPopD (fo : En → Rs Vl) : En → Rs Fl := fun env => (fo env).bind fun x e => match x with
  | .pl (.lst os) up => match os.getLast? with
    | some _ => .ok .nx (up (.lst os.dropLast))
    | _ => .bad
  | _ => .bad
theorem vs_popD {apos cpos : Pos} (ho : VE X W q o fo) (hline : (apos.endLine == cpos.line) = true := by rfl) (hb : attributeBase o "pop" X.env (eval o X.env) = eval o X.env := by rfl) (hs : swapsWith (.Call (.Attribute o "pop" apos) [] [] cpos) none pos.line X.env = pure false := by rfl) :
    VS X W kp (.Expr (.Call (.Attribute o "pop" apos) [] [] cpos) pos) (fPopD fo) := by
  obtain ⟨to, po, so⟩ := ho.ex
  refine ⟨_, ps_expr (pe_bm0 PySem.F.plainAttrs_list PySem.F.slot_list_pop PySem.F.type_list_pop mt_pop po hb hline) hs, fun B ω σ H env D G z => so.run B ω σ H env _ G ((SPost.bindE (q := q) z).imp fun x e ω1 H1 _ ev1 qu1 G1 h1 => fun v rv => ?_)⟩
  split at h1
  · rename_i os up
    split at h1
    · rename_i w hw
      refine ⟨ty_list rv, ?_⟩
      obtain ⟨a, vs, y, p, rfl, k1, k2, k3, k4, k5⟩ := pop_run G1 rv hw
      exact ⟨a, vs, y, rfl, rfl, k2, k3, h1 ω1 σ _ (evo_upd k1 k2) (.refl _ _) k5⟩
    · exact h1.elim
  · exact h1.elim
/-- append a frozen thing to a list at its place -/
def fAppP (fo fe : En → Rs Vl) : En → Rs Fl := fun env => (fo env).bind fun x e => match x with
  | .pl (.lst os) up => if os.length < sizeLine then ((fe e).bind fun y _ => match y with
    | .lf w => .ok .nx (up (.lst (os ++ [.lf w])))
    | _ => .bad) else .bad
  | _ => .bad
theorem vs_appP {apos cpos : Pos} (ho : VE X W true o fo) (he : VE X W true e fe) (hse : starEach [e] X.env = (false, eval e X.env) :: starEach [] X.env := by rfl)
    (hs : swapsWith (.Call (.Attribute o "append" apos) [e] [] cpos) none pos.line X.env = pure false := by rfl)
    (hpe : ∀ (to : TE) (t : TA), PE X o to → PA X [e] t → PE X (.Call (.Attribute o "append" apos) [e] [] cpos) (tBM X.K "list" rAppend to t) := by intro _ _ h1 h2; exact pe_bm PySem.F.plainAttrs_list PySem.F.slot_list_append PySem.F.type_list_append mt_append h1 h2) :
    VS X W kp (.Expr (.Call (.Attribute o "append" apos) [e] [] cpos) pos) (fAppP fo fe) := by
  obtain ⟨te, pe, se⟩ := he.ex
  obtain ⟨to, po, so⟩ := ho.ex
  refine ⟨_, ps_expr (hpe _ _ po (pa_cons pe pa_nil hse)) hs, fun B ω σ H env D G z => so.run B ω σ H env _ G ((SPost.bindE (q := true) z).imp fun x e1 ω1 H1 hx ev1 qu1 G1 h1 => fun v rv => ?_)⟩
  have heq := so.st rfl _ _ _ hx
  subst heq
  split at h1
  · rename_i os up
    split at h1
    · rename_i hsz
      refine ⟨ty_list rv, se.run B ω1 σ H1 e1 _ G1 ((SPost.bindE (q := true) h1).imp fun y e2 ω2 H2 hy ev2 qu2 G2 h2 => fun u ru => ?_)⟩
      have heq := se.st rfl _ _ _ hy
      subst heq
      split at h2
      · rename_i w
        obtain ⟨a, vs, rfl, hH, hl, ev3, G3⟩ := app_lst G2 (rv.quiet (qu2 rfl)) (show RW X.K ω2 H2 u w from ru)
        exact ⟨a, vs, u, rfl, rfl, hH, by rw [hl]; exact hsz, h2 ω2 σ _ ev3 (.refl _ _) G3⟩
      · exact h2.elim
    · exact h1.elim
  · exact h1.elim
/-- append a thing of one's own to a name's list -/
def fAppO (i : Nat) (h : En → Rs O) : En → Rs Fl := fun env => match env[i]? with
  | some (some (.lst _)) => (h env).bind fun o e => (match e[i]? with
    | some (some (.lst os)) => if os.length < sizeLine then .ok .nx (e.set i (some (.lst (os ++ [o])))) else .bad
    | _ => .bad)
  | _ => .bad
theorem vs_appO {i : Nat} {x : Str} {p1 apos cpos : Pos} (he : VO X W e h) (hN : X.N[i]? = some x := by rfl) (hv : Vis X.env.scope x := by first | exact Or.inl rfl | exact Or.inr (Or.inl rfl) | exact Or.inr (Or.inr rfl)) (hd : (x == ("__debug__" : Str)) = false := by decide)
    (hcd : (x == ("__classdict__" : Str)) = false := by decide) (hse : starEach [e] X.env = (false, eval e X.env) :: starEach [] X.env := by rfl)
    (hs : swapsWith (.Call (.Attribute (.Name x p1) "append" apos) [e] [] cpos) none pos.line X.env = pure false := by rfl)
    (hpe : ∀ (to : TE) (t : TA), PE X (.Name x p1) to → PA X [e] t → PE X (.Call (.Attribute (.Name x p1) "append" apos) [e] [] cpos) (tBM X.K "list" rAppend to t) := by intro _ _ h1 h2; exact pe_bm PySem.F.plainAttrs_list PySem.F.slot_list_append PySem.F.type_list_append mt_append h1 h2) :
    VS X W kp (.Expr (.Call (.Attribute (.Name x p1) "append" apos) [e] [] cpos) pos) (fAppO i h) := by
  obtain ⟨te, pe, se⟩ := he.ex
  refine ⟨_, ps_expr (hpe _ _ (pe_var hN hv hd hcd) (pa_cons pe pa_nil hse)) hs, fun B ω σ H env D G z => ?_⟩
  unfold fAppO at z
  split at z
  · rename_i os0 h0
    obtain ⟨v, e1, rv0⟩ := slot_rv G h0
    refine ⟨v, e1, ty_list rv0, se B ω σ H env _ G (SPost.bindO z fun o e' _ ω1 H1 u ev G1 r h1 => ?_)⟩
    have hlen : e'.length ≤ B := by rw [← G1.len, G.len]; exact G.nB
    split at h1
    · rename_i os hi
      split at h1
      · rename_i hsz
        have G2 := G1.hide hlen
        obtain ⟨v', e1', rv1⟩ := slot_rv G2 hi
        rw [e1] at e1'; cases e1'
        obtain ⟨a, vs, p, rfl, k1, k2, k3, k4, key⟩ := lst_putG (B' := B) G2 rv1
        have sh := shown (p := p ++ [os.length]) G1 (.refl _ _) G2
        have hpr := G2.root a p k1
        have hr : ∃ r z, p ++ [os.length] = r :: z ∧ r < B := by obtain ⟨r, z, rfl, hlt⟩ := hpr; exact ⟨r, z ++ [os.length], rfl, hlt⟩
        have hω3a : ωshow B (p ++ [os.length]) ω1 (ωhid B ω1) a = .mine p := sh.keep a _ p k1 k2
        have G3 := key (ωshow B (p ++ [os.length]) ω1 (ωhid B ω1)) (vs ++ [u]) (os ++ [o]) sh.keep sh.fr (by simp [k3]) (fun j v' o' y1 y2 => by
          by_cases hj : j < vs.length
          · rw [List.getElem?_append_left hj] at y1
            rw [List.getElem?_append_left (by rw [← k3]; exact hj)] at y2
            exact .inl ⟨y1, y2⟩
          · rw [List.getElem?_append_right (by omega)] at y1 y2
            have h0 : j - vs.length = 0 := by
              have := (List.getElem?_eq_some_iff.mp y1).1
              simp at this; omega
            have hj' : j = os.length := by omega
            rw [h0] at y1
            rw [← k3, h0] at y2
            simp at y1 y2
            subst y1; subst y2; subst hj'
            exact .inr ((sh.ro u o r).kid hω3a)) (sh.root hr G2.root) sh.wf (Nat.le_refl _)
        exact ⟨a, vs, u, rfl, rfl, k2, by rw [k3]; exact hsz, h1 _ σ _ (ev.trans (sh.evo.trans (evo_upd hω3a k2))) (.refl _ _) G3⟩
      · exact h1.elim
    · exact h1.elim
  · exact z.elim
/-- a thing at its place is frozen -/
def fFrzP (fo : En → Rs Vl) : En → Rs Vl := fun env => (fo env).bind fun x e => match x with
  | .pl (.lst os) up => match O.ers os with
    | some ws => .ok (.lf (.list ws)) (up (.lf (.list ws)))
    | none => .bad
  | .lf w => .ok (.lf w) e
  | _ => .bad
theorem ve_frzP (ho : VE X W q o fo) : VE X W false o (fFrzP fo) := by
  obtain ⟨to, po, so⟩ := ho.ex
  refine ⟨_, po, ⟨fun hq => (nomatch hq), fun B ω σ H env Q G z => so.run B ω σ H env _ G ((EPost.bind (q1 := q) (q2 := false) (by rw [Bool.and_false]; exact z)).imp fun x e ω1 H1 _ ev1 qu1 G1 h1 => fun v rv => ?_)⟩⟩
  split at h1
  rotate_left
  · exact h1 ω1 H1 (.refl _ _) (fun hq => nomatch hq) G1 v rv
  · exact h1.elim
  · rename_i os up hfe
    split at h1
    · rename_i ws hws
      obtain ⟨w, hw0, hw⟩ : ∃ w, w = PyData.list ws ∧ (O.lst os).er = some w := ⟨_, rfl, by rw [O.er, hws]; rfl⟩
      rw [← hw0] at h1
      obtain ⟨p, ro, L, hp, hup⟩ := rv
      have hdec : ∀ a, (∃ z, ω1 a = .mine (p ++ z)) ∨ ∀ z, ω1 a ≠ .mine (p ++ z) := fun a => by
        by_cases h : ∃ z, ω1 a = .mine (p ++ z)
        · exact .inl h
        · exact .inr fun z hz => h ⟨z, hz⟩
      obtain ⟨ω3, h31, h32⟩ : ∃ ω3 : Om, (∀ a z, ω1 a = .mine (p ++ z) → ω3 a = .fr) ∧ ∀ a, (∀ z, ω1 a ≠ .mine (p ++ z)) → ω3 a = ω1 a := by
        classical
        refine ⟨fun a => if ∃ z, ω1 a = .mine (p ++ z) then .fr else ω1 a, fun a z h => if_pos ⟨z, h⟩, fun a h => if_neg fun ⟨z, hz⟩ => h z hz⟩
      have hfr : ∀ a, ω1 a = .fr → ω3 a = .fr := fun a h => (h32 a fun z hz => by rw [h] at hz; cases hz).trans h
      have hout : ∀ a, ω1 a = .out → ω3 a = .out := fun a h => (h32 a fun z hz => by rw [h] at hz; cases hz).trans h
      have rw3 : RW X.K ω3 H1 v w := ro.frz w hw (fun a z y => h31 a z y) hfr
      have G3 := L B ω3 H1 (.lf w) (fun a x q z n e => ⟨(h32 a fun z' hz => n ⟨z', by rw [z] at hz; cases hz; rfl⟩).trans z, e⟩) (fun a x e z => ⟨hfr a z, e⟩) (.lf rw3) (fun a q z => by
        rcases hdec a with ⟨z', hz⟩ | hz
        · rw [h31 a z' hz] at z; cases z
        · rw [h32 a hz] at z; exact G1.root a q z) (fun a z => hfr a (G1.wf a z)) (fun r q e => ?_) (by rw [hup, G1.len]; exact G1.nB)
      · refine h1 ω3 H1 ⟨fun a y e z => ⟨hfr a z, e⟩, fun a y e z => ⟨hout a z, e⟩, fun a z => ?_, fun _ _ _ e => e⟩ (fun hq => nomatch hq) G3 v rw3
        rcases hdec a with ⟨z', hz⟩ | hz
        · rw [h31 a z' hz] at z; cases z
        · rw [h32 a hz] at z; exact z
      · cases ro with
        | lst e1 e2 l g => obtain ⟨r', q', y1, y2⟩ := G1.root _ _ e1; rw [e] at y1; cases y1; exact y2
    · exact h1.elim
end
end MV
set_option Elab.async false
set_option linter.all false
set_option maxRecDepth 100000
set_option maxHeartbeats 4000000
/-! Methods, instances made, new things handed in. -/
namespace L2
open PySem PySem.Spec PyProof.Rows
section
variable {X : Cx} {CX : CXT} {k : Nat} {f C : Addr} {fd : FuncData} {ps : List Str} {sp : Sp} {E : St → XK} {x m : Str} {p pos apos : Pos} {e o : Expr} {es : List Expr} {ta : TE} {t : TA}
def tMethM (C : Addr) (m : Str) (sp : Sp) (E : St → XK) (ta : TE) (t : TA) : TE := fun σ H Q => ta σ H fun x H1 => ∃ a dx fs, x = .ref a ∧ H1 a = some (.ins C dx fs) ∧ fs.lookup m = none ∧
  t σ H1 fun vs H2 => sp (x :: vs) H2 Q (E σ)
theorem pe_methM {pl : Sem Bool} (he : PE X o ta) (c : Cls X.K C) (hm : Meth X.K C m f) (F : FnOk X.prog X.w X.K X.mg X.base CX k f fd ps sp) (hr : Room k X.A) (hb : Binds X.K fd ps []) (hx : ∀ σ, PassesAt CX X σ (E σ)) (ha : PA X (e :: es) t)
    (hst : starEach (e :: es) X.env = (false, eval e X.env) :: starEach es X.env := by rfl) (hpl : (backTo pos (starEach es X.env)).any (·.1) = false := by rfl)
    (ht : eval (.Call (.Attribute o m apos) (e :: es) [] pos) X.env = (do
      let ov ← eval o X.env
      standAt apos.atName
      let (f, first) ← holding [ov] (getMethod ov m pl)
      callWith pos f first (backTo pos (starEach (e :: es) X.env)) (backToKw pos (keywordEach [] X.env))) := by rfl) :
    PE X (.Call (.Attribute o m apos) (e :: es) [] pos) (tMethM C m sp E ta t) := by
  refine ⟨fun pins s σ H Q I h => ?_⟩
  refine PySem.W.methodCall_KW (pl := pl) (thn (he.run pins s σ H _ I h) fun u s1 ⟨x, H1, I1, rx, a, dx, fs, ex, ea, l, q⟩ => ?_) ht
  subst ex
  obtain rfl : u = Value.ref a := rx
  refine getmeth_ok I1 ea c hm l ?_
  refine PySem.W.callWith_K (first := [.ref a]) (h₀ := X.base) I.ok.mod.kin hm.kp (thn (ha.run pos pins s1 σ H1 _ I1 q) fun us s2 ⟨vs, H2, I2, r, q2⟩ => ⟨I2.kIn, ?_⟩) hst hpl
  exact run_fnS (us := .ref a :: us) (vs := .ref a :: vs) F hr hb (hx σ) I2 (.cons rfl r) q2
theorem pe_methM0 {pl : Sem Bool} (he : PE X o ta) (c : Cls X.K C) (hm : Meth X.K C m f) (F : FnOk X.prog X.w X.K X.mg X.base CX k f fd ps sp) (hr : Room k X.A) (hb : Binds X.K fd ps []) (hx : ∀ σ, PassesAt CX X σ (E σ))
    (ht : eval (.Call (.Attribute o m apos) [] [] pos) X.env = (do
      let ov ← eval o X.env
      standAt apos.atName
      let (f, first) ← holding [ov] (getMethod ov m pl)
      callWith pos f first (backTo pos (starEach [] X.env)) (backToKw pos (keywordEach [] X.env))) := by rfl) :
    PE X (.Call (.Attribute o m apos) [] [] pos) (tMethM C m sp E ta tNil) := by
  refine ⟨fun pins s σ H Q I h => ?_⟩
  refine PySem.W.methodCall_KW (pl := pl) (thn (he.run pins s σ H _ I h) fun u s1 ⟨x, H1, I1, rx, a, dx, fs, ex, ea, l, q⟩ => ?_) ht
  subst ex
  obtain rfl : u = Value.ref a := rx
  refine getmeth_ok I1 ea c hm l ?_
  exact PySem.W.callWith_K0 (first := [.ref a]) I1.kIn hm.kp (run_fnS (us := [.ref a]) (vs := [.ref a]) F hr hb (hx σ) I1 (.cons rfl .nil) q)
def tMakeM (C : Addr) (sp : Sp) (E : St → XK) (t : TA) : TE := fun σ H Q => t σ H fun vs H1 => ∀ x dx, H1 x = none → H1 dx = none → dx ≠ x →
  sp (.ref x :: vs) (upd (upd H1 dx (.own x)) x (.ins C dx [])) (fun v H2 => v = .non ∧ Q (.ref x) H2) (E σ)
theorem run_makeM {pins : List (Addr × Obj)} {σ : St} {H : Hp} {s : Shared} {Q : VK} {us : List Value} {vs : List V} (M : Mk X.K C f) (F : FnOk X.prog X.w X.K X.mg X.base CX k f fd ps sp) (hr : Room (k + 1) X.A) (hb : Binds X.K fd ps [])
    (hx : PassesAt CX X σ (E σ)) (I : Inv X pins σ H s) (r : Vals vs us)
    (h : ∀ x dx, H x = none → H dx = none → dx ≠ x → sp (.ref x :: vs) (upd (upd H dx (.own x)) x (.ins C dx [])) (fun v H2 => v = .non ∧ Q (.ref x) H2) (E σ)) :
    wpAny (model X.prog X.w) X.A (call (.ref C) us) (EP X pins σ Q) X.xe s := by
  have hq := h (s.heap.objs.size + 1) s.heap.objs.size (I.hok.fresh (Nat.le_succ _)) (I.hok.fresh (Nat.le_refl _)) (Nat.ne_of_lt (Nat.lt_succ_self _))
  have I2 := Inv.made (C := C) I
  have r2 : Vals (V.ref (s.heap.objs.size + 1) :: vs) (Value.ref (s.heap.objs.size + 1) :: us) := .cons rfl r
  have hl : (Value.ref (s.heap.objs.size + 1) :: us).length = ps.length := by
    have e := r2.length
    rw [F.len _ _ _ _ hq] at e
    exact e.symm
  have b := hb _ (Value.ref (s.heap.objs.size + 1) :: us) I2.kIn (by rw [List.append_nil]; exact hl)
  rw [List.append_nil] at b
  refine wpAny_call (make_map (f := f) I.kIn M.makes M.init (beq_iff_eq.mp M.fn) (codeAny_mono (F.run _ X.stack _ _ ⟨Value.ref (s.heap.objs.size + 1) :: us, []⟩ (Value.ref (s.heap.objs.size + 1) :: us) _ _ (E σ) (hr.make C us [])
    (I2.env0.make C us []) b r2 hq) fun r s' hq' => ?_))
  cases r with
  | error e => exact hx pins _ _ e s' I2 hq'
  | ok fl =>
    cases fl with
    | ret u =>
      obtain ⟨v, H', I3, rv, ev, q3⟩ := I2.after hq'
      subst ev
      exact ⟨rv, ⟨V.ref (s.heap.objs.size + 1), H', I3, rfl, q3⟩⟩
    | next => exact False.elim hq'
    | brk => exact False.elim hq'
    | cont => exact False.elim hq'
theorem pe_makeM (M : Mk X.K C f) (F : FnOk X.prog X.w X.K X.mg X.base CX k f fd ps sp) (hr : Room (k + 1) X.A) (hg : Gl X x) (hm : X.mg x = some (.ref C)) (hb : Binds X.K fd ps []) (hx : ∀ σ, PassesAt CX X σ (E σ))
    (ha : PA X (e :: es) t) (hdb : (x == ("__debug__" : Str)) = false := by decide) (he : starEach (e :: es) X.env = (false, eval e X.env) :: starEach es X.env := by rfl) (hpl : (backTo pos (starEach es X.env)).any (·.1) = false := by rfl) :
    PE X (.Call (.Name x p) (e :: es) [] pos) (tMakeM C sp E t) := by
  refine ⟨fun pins s σ H Q I h => ?_⟩
  refine wpAny_Call_Name_kw (ld_glob I hg hm ?_ hdb)
  refine PySem.W.callWith_K (h₀ := X.base) I.ok.mod.kin M.kp (thn (ha.run pos pins s σ H _ I h) fun us s1 ⟨vs, H1, I1, r, q⟩ => ⟨I1.kIn, ?_⟩) he hpl
  exact run_makeM M F hr hb (hx σ) I1 r q
theorem pe_makeM0 (M : Mk X.K C f) (F : FnOk X.prog X.w X.K X.mg X.base CX k f fd ps sp) (hr : Room (k + 1) X.A) (hg : Gl X x) (hm : X.mg x = some (.ref C)) (hb : Binds X.K fd ps []) (hx : ∀ σ, PassesAt CX X σ (E σ))
    (hdb : (x == ("__debug__" : Str)) = false := by decide) : PE X (.Call (.Name x p) [] [] pos) (tMakeM C sp E tNil) := by
  refine ⟨fun pins s σ H Q I h => ?_⟩
  refine wpAny_Call_Name_kw (ld_glob I hg hm ?_ hdb)
  exact PySem.W.callWith_K0 I.kIn M.kp (run_makeM (us := []) M F hr hb (hx σ) I .nil h)
end
end L2
namespace MV
open PySem PySem.Spec PyProof.Rows L2
section
variable {X : Cx} {W : WX} {kp : Nat → Bool} {q q1 q2 q3 m : Bool} {e a b c tg iter elt o i : Expr} {es rest ifs : List Expr} {pos tpos pos' : Pos} {f fa fb fc fe fo fi : En → Rs Vl} {h : En → Rs O} {K : PySem.W.Frag} {mg : Str → Option Value} {fr : En → Rs (List Arg)}
/-! ### roots renamed, a slot more, a slot less -/
theorem Good.reroot {B1 s t : Nat} {ω : Om} {σ : L2.St} {H : Hp} {env : En} {v : V} {o : O} (G : Good K B1 ω σ H env) (r : RO K ω H [s] v o) (hs : env.length ≤ s) (ht : env.length ≤ t) : ∃ ω', Evo ω H ω' H ∧ Good K (t + 1) ω' σ H env ∧ RO K ω' H [t] v o := by
  refine ⟨fun a => match ω a with
    | .mine (r :: z) => if r = s then .mine (t :: z) else if r < env.length then .mine (r :: z) else .fr
    | .mine [] => .fr
    | x => x, ⟨fun a x e z => ⟨by simp only [z], e⟩, fun a x e z => ⟨by simp only [z], e⟩, fun a z => ?_, fun _ _ _ e => e⟩, ⟨fun i o e => ?_, fun a p z => ?_, fun a z => ?_, by omega, G.len⟩, r.tr [t] (fun a x z y e => ⟨?_, e⟩) fun a x e y => ⟨by simp only [y], e⟩⟩
  · split at z
    · split at z
      · cases z
      · split at z <;> cases z
    · cases z
    · exact z
  · obtain ⟨u, h1, h2⟩ := G.rel i o e
    have hi := (List.getElem?_eq_some_iff.mp e).1
    refine ⟨u, h1, h2.tr [i] (fun a x q z y => ⟨?_, y⟩) fun a x y z => ⟨by simp only [z], y⟩⟩
    simp only [show ω a = .mine (i :: q) from z]
    rw [if_neg (by omega), if_pos hi]
    rfl
  · split at z
    · split at z
      · cases z; exact ⟨t, _, rfl, Nat.lt_succ_self _⟩
      · split at z
        · rename_i hr; cases z; exact ⟨_, _, rfl, by omega⟩
        · cases z
    · cases z
    · rename_i h1 h2
      cases p with
      | nil => exact (h2 z).elim
      | cons r z' => exact (h1 r z' z).elim
  · simp only [G.wf a z]
  · simp only [show ω a = .mine (s :: z) from y, if_true]
    rfl
theorem Good.push {N : Nat} {ω : Om} {σ : L2.St} {H : Hp} {env : En} {u : V} {o : O} (G : Good K (N + 1) ω σ H env) (hN : env.length = N) (r : RO K ω H [N] u o) : Good K (N + 1) ω (σ ++ [some u]) H (env ++ [some o]) := by
  refine ⟨fun i o' e => ?_, G.root, G.wf, by simp [hN], by simp [G.len]⟩
  by_cases hi : i < env.length
  · rw [List.getElem?_append_left hi] at e
    obtain ⟨v, h1, h2⟩ := G.rel i o' e
    exact ⟨v, by rw [List.getElem?_append_left (by rw [G.len]; exact hi)]; exact h1, h2⟩
  · rw [List.getElem?_append_right (by omega)] at e
    have h0 : i - env.length = 0 := by
      have := (List.getElem?_eq_some_iff.mp e).1
      simp at this; omega
    have hiN : i = N := by omega
    rw [h0] at e
    cases e
    subst hiN
    exact ⟨u, by rw [List.getElem?_append_right (by rw [G.len]; omega), G.len, h0]; rfl, r⟩
theorem Good.pop {B : Nat} {ω : Om} {σ : L2.St} {H : Hp} {e2 : En} {x : Option V} {N : Nat} (G : Good K B ω (σ ++ [x]) H e2) (hN : σ.length = N) : Good K B ω σ H (e2.take N) := by
  have hl : e2.length = N + 1 := by rw [← G.len]; simp [hN]
  refine ⟨fun i o e => ?_, G.root, G.wf, by have := G.nB; simp; omega, by simp [hN, hl]⟩
  rw [List.getElem?_take] at e
  split at e
  · rename_i hi
    obtain ⟨v, h1, h2⟩ := G.rel i o e
    exact ⟨v, by rw [List.getElem?_append_left (by omega)] at h1; exact h1, h2⟩
  · cases e
/-! ### arguments, a new thing among them -/
def TPost (K : PySem.W.Frag) (mg : Str → Option Value) (W : WX) (B : Nat) (ω : Om) (σ : L2.St) (H : Hp) (Q : List V → Hp → Prop) : Rs (List Arg × O) → Prop
  | .bad => False
  | .ok xo e => ∀ ω' H' vs u, Evo ω H ω' H' → Good K (B + 1) ω' σ H' e → RO K ω' H' [B] u xo.2 → RAs K ω' (σ ++ [some u]) H' vs xo.1 → Q vs H'
  | .ex c e => ∀ ω' H' C, mg c = some (.ref C) → Evo ω H ω' H' → Good K B ω' σ H' e → W (.ref C) none σ H'
structure VAT (X : Cx) (W : WX) (es : List Expr) (f : En → Rs (List Arg × O)) : Prop where
  ex : ∃ ta, PA X es ta ∧ (∀ env xo e, f env = .ok xo e → xo.1.length = es.length) ∧ ∀ B ω σ H env Q, Good X.K B ω σ H env → TPost X.K X.mg W B ω σ H Q (f env) → ta σ H Q
theorem RAs.push {ω : Om} {σ : L2.St} {H : Hp} {vs : List V} {xs : List Arg} {u : V} (r : RAs K ω σ H vs xs) : RAs K ω (σ ++ [some u]) H vs xs := by
  refine ⟨r.1, fun i v x h1 h2 => ?_⟩
  have := r.2 i v x h1 h2
  cases x with
  | va w => exact this
  | mv j =>
    have h3 : σ[j]? = some (some v) := this
    have hj := (List.getElem?_eq_some_iff.mp h3).1
    show (σ ++ [some u])[j]? = some (some v)
    rw [List.getElem?_append_left hj]; exact h3
def aT (fo : En → Rs O) (fr : En → Rs (List Arg)) : En → Rs (List Arg × O) := fun env => (fo env).bind fun o e => match fr e with
  | .ok xs e' => .ok (.mv e'.length :: xs, o) e'
  | _ => .bad
theorem vat_t (h0 : VO X W e h) (hr : VAC X W true m es fr) (hs : starEach (e :: es) X.env = (false, eval e X.env) :: starEach es X.env := by rfl) : VAT X W (e :: es) (aT h fr) := by
  obtain ⟨t, p, s⟩ := h0.ex
  obtain ⟨t', p', s'⟩ := hr.ex
  refine ⟨_, pa_cons p p' hs, fun env xo e z => ?_, fun B ω σ H env Q G z => s B ω σ H env _ G ?_⟩
  · obtain ⟨a, e1, z1, z2⟩ := Rs.bind_st (env := env) z
    split at z2
    · rename_i xs e' hx
      cases z2
      simp [s'.len _ _ _ hx]
    · cases z2
  · unfold aT at z
    cases hh : h env with
    | bad => rw [hh] at z; exact z
    | ex c e' => rw [hh] at z; exact z
    | ok o e1 =>
      rw [hh] at z
      intro ω1 H1 v ev G1 r
      refine s'.run (B + 1) ω1 σ H1 e1 _ G1 ?_
      have z2 : TPost X.K X.mg W B ω σ H Q (match fr e1 with | .ok xs e' => .ok (.mv e'.length :: xs, o) e' | _ => .bad) := z
      clear z
      cases hf : fr e1 with
      | bad => rw [hf] at z2; exact z2.elim
      | ex c e' => rw [hf] at z2; exact z2.elim
      | ok xs e2 =>
        rw [hf] at z2
        have heq := s'.st rfl _ _ _ hf
        subst heq
        intro ω2 H2 ev2 qu2 G2 vs ra
        refine z2 ω2 H2 (v :: vs) v (ev.trans ev2) G2 (r.quiet (qu2 rfl)) (RAs.cons ?_ ra.push)
        show (σ ++ [some v])[e2.length]? = some (some v)
        rw [← G2.len, List.getElem?_append_right (Nat.le_refl _)]
        simp
def aVT (f : En → Rs Vl) (fr : En → Rs (List Arg × O)) : En → Rs (List Arg × O) := fun env => (f env).bind fun x e => match x with
  | .lf w => (fr e).bind fun xo e' => .ok (.va w :: xo.1, xo.2) e'
  | .pl _ _ => .bad
theorem TPost.bindE {α : Type} {B : Nat} {ω : Om} {σ : L2.St} {H : Hp} {Q : List V → Hp → Prop} {r : Rs α} {k : α → En → Rs (List Arg × O)} (h : TPost K mg W B ω σ H Q (r.bind k)) : EPost K mg W q B ω σ H (fun a e ω1 H1 => TPost K mg W B ω1 σ H1 Q (k a e)) r := by
  cases r with
  | bad => exact h
  | ex c e => exact h
  | ok a e =>
    intro ω1 H1 ev _ G
    have h : TPost K mg W B ω σ H Q (k a e) := h
    cases y : k a e with
    | bad => rw [y] at h; exact h
    | ok xo e' => rw [y] at h; exact fun ω2 H2 vs u ev2 G2 r ra => h ω2 H2 vs u (ev.trans ev2) G2 r ra
    | ex c e' => rw [y] at h; exact fun ω2 H2 C hC ev2 G2 => h ω2 H2 C hC (ev.trans ev2) G2
theorem vat_val {frt : En → Rs (List Arg × O)} (h : VE X W q1 e f) (hr : VAT X W es frt) (hs : starEach (e :: es) X.env = (false, eval e X.env) :: starEach es X.env := by rfl) : VAT X W (e :: es) (aVT f frt) := by
  obtain ⟨t, p, s⟩ := h.ex
  obtain ⟨t', p', hl, s'⟩ := hr.ex
  refine ⟨_, pa_cons p p' hs, fun env xo e z => ?_, fun B ω σ H env Q G z => s.run B ω σ H env _ G ((TPost.bindE z).imp fun x e ω1 H1 _ ev1 qu1 G1 h1 => fun v rv => ?_)⟩
  · obtain ⟨a, e1, z1, z2⟩ := Rs.bind_st (env := env) z
    split at z2
    · obtain ⟨b, e2, z3, z4⟩ := Rs.bind_st (env := env) z2
      cases z4
      simp [hl _ _ _ z3]
    · cases z2
  · split at h1
    · rename_i w
      refine s' B ω1 σ H1 e _ G1 ?_
      cases y : frt e with
      | bad => rw [y] at h1; exact h1
      | ex c e' => rw [y] at h1; exact h1
      | ok xo e' =>
        rw [y] at h1
        exact fun ω2 H2 vs u ev2 G2 r ra => h1 ω2 H2 (v :: vs) u ev2 G2 r (RAs.cons (RW.evo ev2 rv) ra)
    · exact h1.elim
def aMT (i : Nat) (fr : En → Rs (List Arg × O)) : En → Rs (List Arg × O) := fun env => match env[i]? with
  | some (some (.lf w)) => (fr env).bind fun xo e' => .ok (.va w :: xo.1, xo.2) e'
  | some (some _) => (fr env).bind fun xo e' => .ok (.mv i :: xo.1, xo.2) e'
  | _ => .bad
theorem vat_mv {i : Nat} {x : Str} {frt : En → Rs (List Arg × O)} (hr : VAT X W es frt) (hN : X.N[i]? = some x := by rfl) (hv : Vis X.env.scope x := by first | exact Or.inl rfl | exact Or.inr (Or.inl rfl) | exact Or.inr (Or.inr rfl)) (hd : (x == ("__debug__" : Str)) = false := by decide)
    (hcd : (x == ("__classdict__" : Str)) = false := by decide) (hs : starEach (.Name x pos :: es) X.env = (false, eval (.Name x pos) X.env) :: starEach es X.env := by rfl) : VAT X W (.Name x pos :: es) (aMT i frt) := by
  obtain ⟨t', p', hl, s'⟩ := hr.ex
  refine ⟨_, pa_cons (pe_var hN hv hd hcd) p' hs, fun env xo e z => ?_, fun B ω σ H env Q G z => ?_⟩
  · unfold aMT at z
    split at z
    · obtain ⟨b, e2, z3, z4⟩ := Rs.bind_st (env := env) z
      cases z4
      simp [hl _ _ _ z3]
    · obtain ⟨b, e2, z3, z4⟩ := Rs.bind_st (env := env) z
      cases z4
      simp [hl _ _ _ z3]
    · cases z
  · unfold aMT at z
    split at z
    · rename_i w hw
      obtain ⟨v, h1, h2⟩ := G.rel i _ hw
      cases h2 with
      | lf r =>
        refine ⟨v, h1, s' B ω σ H env _ G ?_⟩
        cases y : frt env with
        | bad => rw [y] at z; exact z
        | ex c e' => rw [y] at z; exact z
        | ok xo e' =>
          rw [y] at z
          exact fun ω2 H2 vs u ev2 G2 rr ra => z ω2 H2 (v :: vs) u ev2 G2 rr (RAs.cons (RW.evo ev2 r) ra)
    · rename_i o hne hw
      obtain ⟨v, h1, h2⟩ := G.rel i _ hw
      refine ⟨v, h1, s' B ω σ H env _ G ?_⟩
      cases y : frt env with
      | bad => rw [y] at z; exact z
      | ex c e' => rw [y] at z; exact z
      | ok xo e' =>
        rw [y] at z
        refine fun ω2 H2 vs u ev2 G2 rr ra => z ω2 H2 (v :: vs) u ev2 G2 rr (RAs.cons (x := .mv i) ?_ ra)
        have hi := (List.getElem?_eq_some_iff.mp h1).1
        show (σ ++ [some u])[i]? = some (some v)
        rw [List.getElem?_append_left hi]; exact h1
    · exact z.elim
/-- the call, a slot more -/
theorem call_ext {F : List O → Rs O} {xs : List Arg} {os : List O} {B : Nat} {ω : Om} {σ : L2.St} {H : Hp} {env : En} {vs : List V} {Q : VK} {E : XK} {u : V} {o : O}
    (G : Good K (B + 1) ω σ H env) (hl : env.length ≤ B) (ru : RO K ω H [B] u o) (ra : RAs K ω (σ ++ [some u]) H vs xs) (nd : (mvs xs).Nodup) (ht : takeA (env ++ [some o]) xs = some os)
    (hF : match F os with
      | .bad => False
      | .ok r ps => ∃ e2, putA xs ps (env ++ [some o]) = some e2 ∧ ∀ ω' H' v, Evo ω H ω' H' → Good K (env.length + 2) ω' σ H' (e2.take env.length) → RO K ω' H' [env.length + 1] v r → (∀ oo, e2[env.length]? = some (some oo) → RO K ω' H' [env.length] u oo) → Q v H'
      | .ex c ps => ∃ e2, putA xs ps (env ++ [some o]) = some e2 ∧ ∀ ω' H' C, mg c = some (.ref C) → Evo ω H ω' H' → Good K B ω' σ H' (e2.take env.length) → E (.ref C) none H') : spM K mg xs.length F vs H Q E := by
  obtain ⟨ω1, ev1, G1, ru1⟩ := G.reroot ru hl (Nat.le_refl _)
  have G2 := G1.push rfl ru1
  have ra2 : RAs K ω1 (σ ++ [some u]) H vs xs := ⟨ra.1, fun i v x h1 h2 => (ra.2 i v x h1 h2).evo ev1⟩
  refine call_run G2 ra2 nd ht ?_
  cases y : F os with
  | bad => rw [y] at hF; exact hF
  | ok r ps =>
    rw [y] at hF
    obtain ⟨e2, hp, hq⟩ := hF
    refine ⟨e2, hp, fun ω' H' v ev _ G' r' => ?_⟩
    have G3 : Good K (env.length + 2) ω' (σ ++ [some u]) H' e2 := G'
    refine hq ω' H' v (ev1.trans ev) (G3.pop G.len) r' fun oo hoo => ?_
    obtain ⟨w, k1, k2⟩ := G3.rel _ oo hoo
    rw [← G.len, List.getElem?_append_right (Nat.le_refl _)] at k1
    simp at k1
    subst k1
    exact k2
  | ex c ps =>
    rw [y] at hF
    obtain ⟨e2, hp, hq⟩ := hF
    refine ⟨e2, hp, fun ω' H' C hC ev G' => ?_⟩
    have G3 : Good K (env.length + 1) ω' (σ ++ [some u]) H' e2 := G'
    have G4 := G3.pop G.len
    obtain ⟨ω3, d1, _, G5⟩ := G4.drop (B' := B) (by rw [List.length_take]; omega)
    exact hq ω3 H' C hC ((ev1.trans ev).trans d1.evo) G5
def backX (n : Nat) (xs : List Arg) (e : En) (r : O) (ps : List (Option O)) : Rs O := match putA xs ps e with
  | some e2 => .ok r (e2.take n)
  | none => .bad
def exX (n : Nat) (xs : List Arg) (e : En) (c : Str) (ps : List (Option O)) : Rs O := match putA xs ps e with
  | some e2 => .ex c (e2.take n)
  | none => .bad
/-- f(..), a new thing among the arguments -/
def fCallX (F : List O → Rs O) (fr : En → Rs (List Arg × O)) : En → Rs O := fun env => (fr env).bind fun xo e => if (mvs xo.1).Nodup then match takeA (e ++ [some xo.2]) xo.1 with
  | some os => match F os with
    | .ok r ps => backX e.length xo.1 (e ++ [some xo.2]) r ps
    | .ex c ps => exX e.length xo.1 (e ++ [some xo.2]) c ps
    | .bad => .bad
  | none => .bad else .bad
theorem callX_bind {xs : List Arg} {o : O} {e : En} {F : List O → Rs O} {B : Nat} {ω : Om} {σ : L2.St} {H : Hp} {vs : List V} {u : V} {Q : VK} (G : Good K (B + 1) ω σ H e) (hl : e.length ≤ B) (ru : RO K ω H [B] u o) (ra : RAs K ω (σ ++ [some u]) H vs xs)
    (h : OPost K mg W B ω σ H Q (if (mvs xs).Nodup then match takeA (e ++ [some o]) xs with
      | some os => match F os with
        | .ok r ps => backX e.length xs (e ++ [some o]) r ps
        | .ex c ps => exX e.length xs (e ++ [some o]) c ps
        | .bad => .bad
      | none => .bad else .bad)) : spM K mg xs.length F vs H Q (WE W σ) := by
  split at h
  · rename_i nd
    split at h
    · rename_i os ht
      refine call_ext G hl ru ra nd ht ?_
      cases y : F os with
      | bad => rw [y] at h; exact h
      | ok r ps =>
        rw [y] at h
        have h : OPost K mg W B ω σ H Q (match putA xs ps (e ++ [some o]) with | some e2 => .ok r (e2.take e.length) | none => .bad) := h
        split at h
        · rename_i e2 hp
          refine ⟨e2, hp, fun ω' H' v ev G' r' _ => ?_⟩
          have hl2 : (e2.take e.length).length ≤ e.length := by rw [List.length_take]; omega
          obtain ⟨ω3, ev3, G3, r3⟩ := G'.reroot (t := B) r' (by omega) (by omega)
          exact h ω3 H' v (ev.trans ev3) G3 r3
        · exact h.elim
      | ex c ps =>
        rw [y] at h
        have h : OPost K mg W B ω σ H Q (match putA xs ps (e ++ [some o]) with | some e2 => .ex c (e2.take e.length) | none => .bad) := h
        split at h
        · rename_i e2 hp
          exact ⟨e2, hp, fun ω' H' C hC ev G' => h ω' H' C hC ev G'⟩
        · exact h.elim
    · exact h.elim
  · exact h.elim
theorem TPost.ofO {B : Nat} {ω : Om} {σ : L2.St} {H : Hp} {Q : VK} {Q' : List V → Hp → Prop} {r : Rs (List Arg × O)} {k : (List Arg × O) → En → Rs O} (h : OPost K mg W B ω σ H Q (r.bind k)) (hk : ∀ xo e ω' H' vs u, r = .ok xo e → Evo ω H ω' H' → Good K (B + 1) ω' σ H' e → RO K ω' H' [B] u xo.2 → RAs K ω' (σ ++ [some u]) H' vs xo.1 → OPost K mg W B ω' σ H' Q (k xo e) → Q' vs H') : TPost K mg W B ω σ H Q' r := by
  cases r with
  | bad => exact h
  | ex c e => exact h
  | ok xo e =>
    intro ω1 H1 vs u ev G ru ra
    refine hk xo e ω1 H1 vs u rfl ev G ru ra ?_
    have h : OPost K mg W B ω σ H Q (k xo e) := h
    cases z : k xo e with
    | bad => rw [z] at h; exact h
    | ok o e' => rw [z] at h; exact fun ω2 H2 v ev2 G2 r => h ω2 H2 v (ev.trans ev2) G2 r
    | ex c e' => rw [z] at h; exact fun ω2 H2 C hC ev2 G2 => h ω2 H2 C hC (ev.trans ev2) G2
theorem vo_callX {x : Str} {p : Pos} {k : Nat} {fa : Addr} {fd : FuncData} {ps : List Str} {F : List O → Rs O} {n : Nat} {frt : En → Rs (List Arg × O)} (tk : Takes X W) (Fn : FnOk X.prog X.w X.K X.mg X.base (L2.CX X.prog X.w) k fa fd ps (spM X.K X.mg n F)) (hr : Room k X.A) (hg : Gl X x) (hm : X.mg x = some (.ref fa)) (hk : PySem.W.keepIn X.K (.ref fa) = true) (hb : Binds X.K fd ps [])
    (ha : VAT X W (e :: es) frt) (hn : (e :: es).length = n := by rfl) (hdb : (x == ("__debug__" : Str)) = false := by decide) (he : starEach (e :: es) X.env = (false, eval e X.env) :: starEach es X.env := by rfl) (hpl : (backTo pos (starEach es X.env)).any (·.1) = false := by rfl) :
    VO X W (.Call (.Name x p) (e :: es) [] pos) (fCallX F frt) := by
  obtain ⟨ta, pa, hlen, sa⟩ := ha.ex
  refine ⟨_, pe_callS (E := WE W) Fn hr hg hm hk hb (fun σ => passAt tk σ) pa hdb he hpl, fun B ω σ H env Q G z => sa B ω σ H env _ G (TPost.ofO z fun xo e ω1 H1 vs u hfe ev G1 ru ra h1 => ?_)⟩
  have hl : e.length ≤ B := by rw [← G1.len, G.len]; exact G.nB
  have hh := callX_bind (W := W) (mg := X.mg) G1 hl ru ra h1
  rw [(hlen _ _ _ hfe).trans hn] at hh
  exact hh
/-! ### methods -/
structure Mth (X : Cx) (n m : Str) (A f : Addr) : Prop where
  nm : PySem.W.nsIn X.K PySem.mainGlobals n = some (some (.ref A))
  cl : Cls X.K A
  me : Meth X.K A m f
theorem ins_meth {ω : Om} {H : Hp} {p : List Nat} {v : V} {n mm : Str} {os : List (Str × O)} {A fa : Addr} (M : Mth X n mm A fa) (r : RO X.K ω H p v (.ins n os)) : ∃ a dx fs, v = .ref a ∧ H a = some (.ins A dx fs) ∧ fs.lookup mm = none := by
  cases r with
  | @ins _ a C dx _ vs _ e1 e2 ic l kk g =>
    have hC : C = A := by have := ic.nm.symm.trans M.nm; cases this; rfl
    subst hC
    refine ⟨a, dx, vs, rfl, e2, lookup_no fun hm => ?_⟩
    obtain ⟨⟨k, v⟩, hmem, rfl⟩ := List.mem_map.mp hm
    obtain ⟨i, hi, hg⟩ := List.getElem_of_mem hmem
    have hg1 : vs[i]? = some (k, v) := by rw [List.getElem?_eq_getElem hi, hg]
    have h1 := ic.na i k v hg1
    have h2 := M.me.at_
    unfold NoAttr at h1
    rw [h1] at h2
    cases h2
/-- x.m(..) -/
def fMeth (n : Str) (i : Nat) (F : List O → Rs O) (fr : En → Rs (List Arg)) : En → Rs O := fun env => match env[i]? with
  | some (some (.ins m _)) => if m = n then (fr env).bind fun xs e => if (mvs (.mv i :: xs)).Nodup then match takeA e (.mv i :: xs) with
      | some os => match F os with
        | .ok r ps => (match putA (.mv i :: xs) ps e with
          | some e' => .ok r e'
          | none => .bad)
        | .ex c ps => (match putA (.mv i :: xs) ps e with
          | some e' => .ex c e'
          | none => .bad)
        | .bad => .bad
      | none => .bad else .bad else .bad
  | _ => .bad
theorem meth_run {i : Nat} {mm n : Str} {A fa : Addr} {N : Nat} {F : List O → Rs O} {es : List Expr} {ta : TA} (M : Mth X n mm A fa) (sa : SAC X.K X.mg W es.length q m ta fr) (hN : es.length + 1 = N) {B : Nat} {ω : Om} {σ : L2.St} {H : Hp} {env : En} {Q : VK} (G : Good X.K B ω σ H env)
    (z : OPost X.K X.mg W B ω σ H Q (fMeth n i F fr env)) : tMethM A mm (spM X.K X.mg N F) (WE W) (tVar i) ta σ H Q := by
  unfold fMeth at z
  split at z
  · rename_i m' os hi
    split at z
    · rename_i hm'
      subst hm'
      obtain ⟨v, h1, h2⟩ := G.rel i _ hi
      obtain ⟨a, dx, fs, rfl, h3, h4⟩ := ins_meth M h2
      refine ⟨.ref a, h1, a, dx, fs, rfl, h3, h4, sa.run B ω σ H env _ G ((OPost.bindA z).imp fun xs e ω1 H1 hfe ev qu G1 h5 => fun vs rv => ?_)⟩
      have rv2 : RAs X.K ω1 σ H1 (.ref a :: vs) (.mv i :: xs) := RAs.cons (x := .mv i) h1 rv
      have hh := call_bind (W := W) (mg := X.mg) G1 rv2 h5
      have hl : (Arg.mv i :: xs).length = N := by rw [List.length_cons, sa.len _ _ _ hfe]; exact hN
      rw [hl] at hh
      exact hh
    · exact z.elim
  · exact z.elim
theorem vo_meth {x : Str} {i : Nat} {mm n : Str} {A fa : Addr} {p1 apos : Pos} {k : Nat} {fd : FuncData} {ps : List Str} {F : List O → Rs O} {N : Nat} (tk : Takes X W) (M : Mth X n mm A fa) (Fn : FnOk X.prog X.w X.K X.mg X.base (L2.CX X.prog X.w) k fa fd ps (spM X.K X.mg N F)) (hr : Room k X.A) (hb : Binds X.K fd ps [])
    (ha : VAC X W q m (e :: es) fr) (hn : (e :: es).length + 1 = N := by rfl) (hN : X.N[i]? = some x := by rfl) (hv : Vis X.env.scope x := by first | exact Or.inl rfl | exact Or.inr (Or.inl rfl) | exact Or.inr (Or.inr rfl)) (hd : (x == ("__debug__" : Str)) = false := by decide)
    (hcd : (x == ("__classdict__" : Str)) = false := by decide) (hst : starEach (e :: es) X.env = (false, eval e X.env) :: starEach es X.env := by rfl) (hpl : (backTo pos (starEach es X.env)).any (·.1) = false := by rfl)
    {pl : Sem Bool} (ht : eval (.Call (.Attribute (.Name x p1) mm apos) (e :: es) [] pos) X.env = (do
      let ov ← eval (.Name x p1) X.env
      standAt apos.atName
      let (f, first) ← holding [ov] (getMethod ov mm pl)
      callWith pos f first (backTo pos (starEach (e :: es) X.env)) (backToKw pos (keywordEach [] X.env))) := by rfl) :
    VO X W (.Call (.Attribute (.Name x p1) mm apos) (e :: es) [] pos) (fMeth n i F fr) := by
  obtain ⟨ta, pa, sa⟩ := ha.ex
  exact ⟨_, pe_methM (E := WE W) (pe_var hN hv hd hcd) M.cl M.me Fn hr hb (fun σ => passAt tk σ) pa hst hpl ht, fun B ω σ H env Q G z => meth_run M sa hn G z⟩
theorem sac_nil : SAC K mg W 0 true true tNil aNil := ⟨fun env xs e h => by cases h; rfl, fun _ env x e h => by cases h; rfl, (fun _ env xs e h => by cases h; intro x z; cases z), fun B ω σ H env Q G h => EPost.ok_here G h _ ⟨rfl, fun i v w e => by simp at e⟩⟩
theorem vo_meth0 {x : Str} {i : Nat} {mm n : Str} {A fa : Addr} {p1 apos : Pos} {k : Nat} {fd : FuncData} {ps : List Str} {F : List O → Rs O} {N : Nat} (tk : Takes X W) (M : Mth X n mm A fa) (Fn : FnOk X.prog X.w X.K X.mg X.base (L2.CX X.prog X.w) k fa fd ps (spM X.K X.mg N F)) (hr : Room k X.A) (hb : Binds X.K fd ps []) (hn : 1 = N := by rfl) (hN : X.N[i]? = some x := by rfl) (hv : Vis X.env.scope x := by first | exact Or.inl rfl | exact Or.inr (Or.inl rfl) | exact Or.inr (Or.inr rfl)) (hd : (x == ("__debug__" : Str)) = false := by decide)
    (hcd : (x == ("__classdict__" : Str)) = false := by decide)
    {pl : Sem Bool} (ht : eval (.Call (.Attribute (.Name x p1) mm apos) [] [] pos) X.env = (do
      let ov ← eval (.Name x p1) X.env
      standAt apos.atName
      let (f, first) ← holding [ov] (getMethod ov mm pl)
      callWith pos f first (backTo pos (starEach [] X.env)) (backToKw pos (keywordEach [] X.env))) := by rfl) :
    VO X W (.Call (.Attribute (.Name x p1) mm apos) [] [] pos) (fMeth n i F aNil) :=
  ⟨_, pe_methM0 (E := WE W) (pe_var hN hv hd hcd) M.cl M.me Fn hr hb (fun σ => passAt tk σ) ht, fun B ω σ H env Q G z => meth_run (es := []) M sac_nil hn G z⟩
/-- x.m(.., a new thing, ..) -/
def fMethX (n : Str) (i : Nat) (F : List O → Rs O) (frt : En → Rs (List Arg × O)) : En → Rs O := fun env => match env[i]? with
  | some (some (.ins m _)) => if m = n then (frt env).bind fun xo e => if (mvs (.mv i :: xo.1)).Nodup then match takeA (e ++ [some xo.2]) (.mv i :: xo.1) with
      | some os => match F os with
        | .ok r ps => backX e.length (.mv i :: xo.1) (e ++ [some xo.2]) r ps
        | .ex c ps => exX e.length (.mv i :: xo.1) (e ++ [some xo.2]) c ps
        | .bad => .bad
      | none => .bad else .bad else .bad
  | _ => .bad
theorem vo_methX {frt : En → Rs (List Arg × O)} {x : Str} {i : Nat} {mm n : Str} {A fa : Addr} {p1 apos : Pos} {k : Nat} {fd : FuncData} {ps : List Str} {F : List O → Rs O} {N : Nat} (tk : Takes X W) (M : Mth X n mm A fa) (Fn : FnOk X.prog X.w X.K X.mg X.base (L2.CX X.prog X.w) k fa fd ps (spM X.K X.mg N F)) (hr : Room k X.A) (hb : Binds X.K fd ps [])
    (ha : VAT X W (e :: es) frt) (hn : (e :: es).length + 1 = N := by rfl) (hN : X.N[i]? = some x := by rfl) (hv : Vis X.env.scope x := by first | exact Or.inl rfl | exact Or.inr (Or.inl rfl) | exact Or.inr (Or.inr rfl)) (hd : (x == ("__debug__" : Str)) = false := by decide)
    (hcd : (x == ("__classdict__" : Str)) = false := by decide) (hst : starEach (e :: es) X.env = (false, eval e X.env) :: starEach es X.env := by rfl) (hpl : (backTo pos (starEach es X.env)).any (·.1) = false := by rfl)
    {pl : Sem Bool} (ht : eval (.Call (.Attribute (.Name x p1) mm apos) (e :: es) [] pos) X.env = (do
      let ov ← eval (.Name x p1) X.env
      standAt apos.atName
      let (f, first) ← holding [ov] (getMethod ov mm pl)
      callWith pos f first (backTo pos (starEach (e :: es) X.env)) (backToKw pos (keywordEach [] X.env))) := by rfl) :
    VO X W (.Call (.Attribute (.Name x p1) mm apos) (e :: es) [] pos) (fMethX n i F frt) := by
  obtain ⟨ta, pa, hlen, sa⟩ := ha.ex
  refine ⟨_, pe_methM (E := WE W) (pe_var hN hv hd hcd) M.cl M.me Fn hr hb (fun σ => passAt tk σ) pa hst hpl ht, fun B ω σ H env Q G z => ?_⟩
  unfold fMethX at z
  split at z
  · rename_i m' os hi
    split at z
    · rename_i hm'
      subst hm'
      obtain ⟨v, h1, h2⟩ := G.rel i _ hi
      obtain ⟨a, dx, fs, rfl, h3, h4⟩ := ins_meth M h2
      refine ⟨.ref a, h1, a, dx, fs, rfl, h3, h4, sa B ω σ H env _ G (TPost.ofO z fun xo e ω1 H1 vs u hfe ev G1 ru ra h5 => ?_)⟩
      have hl : e.length ≤ B := by rw [← G1.len, G.len]; exact G.nB
      have hi2 := (List.getElem?_eq_some_iff.mp h1).1
      have rv2 : RAs X.K ω1 (σ ++ [some u]) H1 (.ref a :: vs) (.mv i :: xo.1) := RAs.cons (x := .mv i) (show (σ ++ [some u])[i]? = some (some (.ref a)) by rw [List.getElem?_append_left hi2]; exact h1) ra
      have hh := callX_bind (W := W) (mg := X.mg) G1 hl ru rv2 h5
      have hl2 : (Arg.mv i :: xo.1).length = N := by rw [List.length_cons, hlen _ _ _ hfe]; exact hn
      rw [hl2] at hh
      exact hh
    · exact z.elim
  · exact z.elim
/-- C(..).m(), C an own class: the answer alone -/
def fTmpM (n : Str) (F : List O → Rs O) (h : En → Rs O) : En → Rs O := fun env => (h env).bind fun o e => match o with
  | .ins m os => if m = n then (match F [.ins m os] with
    | .ok r ps => backX e.length [.mv e.length] (e ++ [some (.ins m os)]) r ps
    | .ex c ps => exX e.length [.mv e.length] (e ++ [some (.ins m os)]) c ps
    | .bad => .bad) else .bad
  | _ => .bad
theorem vo_tmpM {h : En → Rs O} {mm n : Str} {A fa : Addr} {apos : Pos} {k : Nat} {fd : FuncData} {ps : List Str} {F : List O → Rs O} (tk : Takes X W) (M : Mth X n mm A fa) (Fn : FnOk X.prog X.w X.K X.mg X.base (L2.CX X.prog X.w) k fa fd ps (spM X.K X.mg 1 F)) (hr : Room k X.A) (hb : Binds X.K fd ps []) (h0 : VO X W o h)
    {pl : Sem Bool} (ht : eval (.Call (.Attribute o mm apos) [] [] pos) X.env = (do
      let ov ← eval o X.env
      standAt apos.atName
      let (f, first) ← holding [ov] (getMethod ov mm pl)
      callWith pos f first (backTo pos (starEach [] X.env)) (backToKw pos (keywordEach [] X.env))) := by rfl) :
    VO X W (.Call (.Attribute o mm apos) [] [] pos) (fTmpM n F h) := by
  obtain ⟨t, p, s⟩ := h0.ex
  refine ⟨_, pe_methM0 (E := WE W) p M.cl M.me Fn hr hb (fun σ => passAt tk σ) ht, fun B ω σ H env Q G z => s B ω σ H env _ G ?_⟩
  unfold fTmpM at z
  cases hh : h env with
  | bad => rw [hh] at z; exact z
  | ex c e' => rw [hh] at z; exact z
  | ok o1 e1 =>
    rw [hh] at z
    intro ω1 H1 v ev G1 r
    have hl : e1.length ≤ B := by rw [← G1.len, G.len]; exact G.nB
    cases o1 with
    | ins m' os =>
      have z2 : OPost X.K X.mg W B ω σ H Q (if m' = n then (match F [.ins m' os] with
        | .ok r ps => backX e1.length [.mv e1.length] (e1 ++ [some (.ins m' os)]) r ps
        | .ex c ps => exX e1.length [.mv e1.length] (e1 ++ [some (.ins m' os)]) c ps
        | .bad => .bad) else .bad) := z
      split at z2
      · rename_i hm'
        subst hm'
        obtain ⟨a, dx, fs, rfl, h3, h4⟩ := ins_meth M r
        refine ⟨a, dx, fs, rfl, h3, h4, ?_⟩
        have ra : RAs X.K ω1 (σ ++ [some (.ref a)]) H1 [.ref a] [.mv e1.length] := RAs.cons (x := .mv e1.length) (show (σ ++ [some (V.ref a)])[e1.length]? = some (some (.ref a)) by rw [← G1.len, List.getElem?_append_right (Nat.le_refl _)]; simp) ⟨rfl, fun i v w e => by simp at e⟩
        refine callX_bind (W := W) (mg := X.mg) (xs := [.mv e1.length]) G1 hl r ra ?_
        have ht : takeA (e1 ++ [some (O.ins m' os)]) [Arg.mv e1.length] = some [.ins m' os] := by
          unfold takeA
          rw [List.getElem?_append_right (Nat.le_refl _)]
          simp [takeA]
        rw [if_pos (by simp [mvs]), ht]
        dsimp only
        cases y : F [.ins m' os] with
        | bad => rw [y] at z2; exact z2
        | ok r ps =>
          rw [y] at z2
          dsimp only at z2 ⊢
          cases y2 : backX e1.length [.mv e1.length] (e1 ++ [some (.ins m' os)]) r ps with
          | bad => rw [y2] at z2; exact z2
          | ok o e => rw [y2] at z2; exact fun ω2 H2 v ev2 G2 r => z2 ω2 H2 v (ev.trans ev2) G2 r
          | ex c e => rw [y2] at z2; exact fun ω2 H2 C hC ev2 G2 => z2 ω2 H2 C hC (ev.trans ev2) G2
        | ex c ps =>
          rw [y] at z2
          dsimp only at z2 ⊢
          cases y2 : exX e1.length [.mv e1.length] (e1 ++ [some (.ins m' os)]) c ps with
          | bad => rw [y2] at z2; exact z2
          | ok o e => rw [y2] at z2; exact fun ω2 H2 v ev2 G2 r => z2 ω2 H2 v (ev.trans ev2) G2 r
          | ex c e => rw [y2] at z2; exact fun ω2 H2 C hC ev2 G2 => z2 ω2 H2 C hC (ev.trans ev2) G2
      · exact z2.elim
    | _ => exact z.elim
/-! ### instances made -/
def fMake (n : Str) (F : List O → Rs O) (fr : En → Rs (List Arg)) : En → Rs O := fun env => (fr env).bind fun xs e => if (mvs (.mv e.length :: xs)).Nodup then match takeA (e ++ [some (.ins n [])]) (.mv e.length :: xs) with
  | some os => match F os with
    | .ok (.lf .none) ps => (match putA (.mv e.length :: xs) ps (e ++ [some (.ins n [])]) with
      | some e2 => (match e2[e.length]? with
        | some (some o) => .ok o (e2.take e.length)
        | _ => .bad)
      | none => .bad)
    | .ex c ps => exX e.length (.mv e.length :: xs) (e ++ [some (.ins n [])]) c ps
    | _ => .bad
  | none => .bad else .bad
theorem make_run {n : Str} {A : Addr} {N : Nat} {F : List O → Rs O} {es : List Expr} {ta : TA} (hnm : PySem.W.nsIn X.K PySem.mainGlobals n = some (some (.ref A))) (hcl : Cls X.K A) (sa : SAC X.K X.mg W es.length q m ta fr) (hN : es.length + 1 = N) {B : Nat} {ω : Om} {σ : L2.St} {H : Hp} {env : En} {Q : VK} (G : Good X.K B ω σ H env)
    (z : OPost X.K X.mg W B ω σ H Q (fMake n F fr env)) : tMakeM A (spM X.K X.mg N F) (WE W) ta σ H Q := by
  refine sa.run B ω σ H env _ G ((OPost.bindA z).imp fun xs e ω1 H1 hfe ev qu G1 h1 => fun vs rv => ?_)
  intro x dx hx hdx hne
  have hl : e.length ≤ B := by rw [← G1.len, G.len]; exact G.nB
  have G2 := G1.alloc (u := .own x) hdx
  have hx2 : upd H1 dx (.own x) x = none := by rw [upd_ne (fun t => hne t.symm)]; exact hx
  obtain ⟨ev3, G3, hrw⟩ := new_own (u := .ins A dx []) G2 hx2
  have ev2 : Evo ω1 H1 ω1 (upd H1 dx (.own x)) := (Quiet.alloc hdx).evo
  have ru : RO X.K (fun a => if a = x then .mine [B] else ω1 a) (upd (upd H1 dx (.own x)) x (.ins A dx [])) [B] (.ref x) (.ins n []) :=
    .ins (C := A) (dx := dx) (vs := []) (by simp) upd_same ⟨hnm, hcl, fun i f v z => by simp at z, List.nodup_nil⟩ rfl (fun i k v k' o z => by simp at z) (fun i k v k' o z => by simp at z)
  have ra : RAs X.K (fun a => if a = x then .mine [B] else ω1 a) (σ ++ [some (.ref x)]) (upd (upd H1 dx (.own x)) x (.ins A dx [])) (.ref x :: vs) (.mv e.length :: xs) := by
    refine RAs.cons (x := .mv e.length) (show (σ ++ [some (V.ref x)])[e.length]? = some (some (.ref x)) by rw [← G1.len, List.getElem?_append_right (Nat.le_refl _)]; simp) (RAs.push ⟨rv.1, fun i v w y1 y2 => (rv.2 i v w y1 y2).evo (ev2.trans ev3)⟩)
  split at h1
  · rename_i nd
    split at h1
    · rename_i os ht
      have hlen : (Arg.mv e.length :: xs).length = N := by rw [List.length_cons, sa.len _ _ _ hfe]; exact hN
      rw [← hlen]
      refine call_ext G3 hl ru ra nd ht ?_
      cases y : F os with
      | bad => rw [y] at h1; exact h1
      | ok r ps =>
        rw [y] at h1
        split at h1
        · rename_i ps' heq
          cases heq
          split at h1
          · rename_i e2 hp
            split at h1
            · rename_i o ho
              refine ⟨e2, hp, fun ω' H' v ev4 G' r' hoo => ?_⟩
              cases r' with
              | lf r' =>
                cases r'
                have hl2 : (e2.take e.length).length ≤ e.length := by rw [List.length_take]; omega
                obtain ⟨ω4, ev5, G5, r5⟩ := G'.reroot (t := B) (hoo o ho) (by omega) (by omega)
                exact ⟨rfl, h1 ω4 H' (.ref x) ((ev2.trans ev3).trans (ev4.trans ev5)) G5 r5⟩
            · exact h1.elim
          · exact h1.elim
        · rename_i heq; cases heq
        · exact h1.elim
      | ex c ps =>
        rw [y] at h1
        have h1 : OPost X.K X.mg W B ω1 σ H1 Q (match putA (.mv e.length :: xs) ps (e ++ [some (.ins n [])]) with | some e2 => .ex c (e2.take e.length) | none => .bad) := h1
        split at h1
        · rename_i e2 hp
          exact ⟨e2, hp, fun ω' H' C hC ev4 G' => h1 ω' H' C hC ((ev2.trans ev3).trans ev4) G'⟩
        · exact h1.elim
    · exact h1.elim
  · exact h1.elim
theorem vo_make {x : Str} {p : Pos} {k : Nat} {A fa : Addr} {fd : FuncData} {ps : List Str} {F : List O → Rs O} {N : Nat} (tk : Takes X W) (hnm : PySem.W.nsIn X.K PySem.mainGlobals x = some (some (.ref A))) (hcl : Cls X.K A) (M : Mk X.K A fa) (Fn : FnOk X.prog X.w X.K X.mg X.base (L2.CX X.prog X.w) k fa fd ps (spM X.K X.mg N F)) (hr : Room (k + 1) X.A) (hg : Gl X x) (hm : X.mg x = some (.ref A)) (hb : Binds X.K fd ps [])
    (ha : VAC X W q m (e :: es) fr) (hn : (e :: es).length + 1 = N := by rfl) (hdb : (x == ("__debug__" : Str)) = false := by decide) (he : starEach (e :: es) X.env = (false, eval e X.env) :: starEach es X.env := by rfl) (hpl : (backTo pos (starEach es X.env)).any (·.1) = false := by rfl) :
    VO X W (.Call (.Name x p) (e :: es) [] pos) (fMake x F fr) := by
  obtain ⟨ta, pa, sa⟩ := ha.ex
  exact ⟨_, pe_makeM (E := WE W) M Fn hr hg hm hb (fun σ => passAt tk σ) pa hdb he hpl, fun B ω σ H env Q G z => make_run hnm hcl sa hn G z⟩
theorem vo_make0 {x : Str} {p : Pos} {k : Nat} {A fa : Addr} {fd : FuncData} {ps : List Str} {F : List O → Rs O} {N : Nat} (tk : Takes X W) (hnm : PySem.W.nsIn X.K PySem.mainGlobals x = some (some (.ref A))) (hcl : Cls X.K A) (M : Mk X.K A fa) (Fn : FnOk X.prog X.w X.K X.mg X.base (L2.CX X.prog X.w) k fa fd ps (spM X.K X.mg N F)) (hr : Room (k + 1) X.A) (hg : Gl X x) (hm : X.mg x = some (.ref A)) (hb : Binds X.K fd ps [])
    (hn : 1 = N := by rfl) (hdb : (x == ("__debug__" : Str)) = false := by decide) : VO X W (.Call (.Name x p) [] [] pos) (fMake x F aNil) :=
  ⟨_, pe_makeM0 (E := WE W) M Fn hr hg hm hb (fun σ => passAt tk σ) hdb, fun B ω σ H env Q G z => make_run (es := []) hnm hcl sac_nil hn G z⟩
end
end MV
set_option Elab.async false
set_option linter.all false
set_option maxRecDepth 100000
set_option maxHeartbeats 4000000
/-! Dicts of one's own: frozen values; keys ints and texts, or tuples of them. -/
namespace MV
open PySem PySem.Spec PyProof.Rows L2
section
variable {κ : Type} [DecidableEq κ]
def dFind (k : κ) : List (κ × O) → Option O
  | [] => none
  | (k', o) :: r => if k' = k then some o else dFind k r
def dPut (k : κ) (o : O) (kvs : List (κ × O)) : List (κ × O) :=
  if (kvs.any fun p => decide (p.1 = k)) = true then kvs.map (fun p => if p.1 = k then (p.1, o) else p) else kvs ++ [(k, o)]
theorem dct_rel {P : Nat → V → O → Prop} (k : κ) : ∀ {vs : List (κ × V)} {os : List (κ × O)} (c : Nat), vs.length = os.length → (∀ (i : Nat) k v k' o, vs[i]? = some (k, v) → os[i]? = some (k', o) → k = k') → (∀ (i : Nat) k v k' o, vs[i]? = some (k, v) → os[i]? = some (k', o) → P (c + i) v o) →
    (match dFind k os with
    | some o => ∃ v i, valV vs k = some v ∧ P i v o
    | none => valV vs k = none)
  | [], [], c, _, _, _ => rfl
  | [], _ :: _, _, h, _, _ => by simp at h
  | _ :: _, [], _, h, _, _ => by simp at h
  | (k1, v) :: vs, (k2, o) :: os, c, hl, hk, hP => by
    have hk0 := hk 0 k1 v k2 o rfl rfl
    subst hk0
    rw [dFind]
    by_cases h : k1 = k
    · rw [if_pos h]
      exact ⟨v, c, valV_pos h, hP 0 k1 v k1 o rfl rfl⟩
    · rw [if_neg h, valV_neg h]
      exact dct_rel k (c + 1) (by simpa using hl) (fun i k v k' o h1 h2 => hk (i + 1) k v k' o (by simpa using h1) (by simpa using h2)) (fun i k v k' o h1 h2 => by
        have := hP (i + 1) k v k' o (by simpa using h1) (by simpa using h2)
        rw [show c + 1 + i = c + (i + 1) by omega]; exact this)
theorem any_keys (k : κ) : ∀ {vs : List (κ × V)} {os : List (κ × O)}, vs.length = os.length → (∀ (i : Nat) k v k' o, vs[i]? = some (k, v) → os[i]? = some (k', o) → k = k') → (vs.any fun p => decide (p.1 = k)) = os.any fun p => decide (p.1 = k)
  | [], [], _, _ => rfl
  | [], _ :: _, h, _ => by simp at h
  | _ :: _, [], h, _ => by simp at h
  | (k1, v) :: vs, (k2, o) :: os, hl, hk => by
    have hk0 := hk 0 k1 v k2 o rfl rfl
    subst hk0
    rw [List.any_cons, List.any_cons, any_keys k (vs := vs) (os := os) (by simpa using hl) fun i k v k' o h1 h2 => hk (i + 1) k v k' o (by simpa using h1) (by simpa using h2)]
/-- the same is put into both -/
theorem put_rel {k : κ} {vs : List (κ × V)} {os : List (κ × O)} {y : V} {o : O} (hl : vs.length = os.length) (hk : ∀ (i : Nat) k v k' o, vs[i]? = some (k, v) → os[i]? = some (k', o) → k = k') :
    (putK vs k y).length = (dPut k o os).length ∧ (∀ (i : Nat) k1 v k2 o2, (putK vs k y)[i]? = some (k1, v) → (dPut k o os)[i]? = some (k2, o2) → k1 = k2 ∧ ((v = y ∧ o2 = o) ∨ (vs[i]? = some (k1, v) ∧ os[i]? = some (k2, o2)))) := by
  unfold putK dPut
  have ha := any_keys k hl hk
  cases hb : (os.any fun p => decide (p.1 = k)) with
  | true =>
    rw [hb] at ha
    rw [if_pos ha, if_pos rfl]
    refine ⟨by simpa using hl, fun i k1 v k2 o2 h1 h2 => ?_⟩
    rw [List.getElem?_map] at h1 h2
    cases e1 : vs[i]? with
    | none => rw [e1] at h1; cases h1
    | some p =>
      cases e2 : os[i]? with
      | none => rw [e2] at h2; cases h2
      | some q =>
        rw [e1] at h1; rw [e2] at h2
        obtain ⟨a, b⟩ := p
        obtain ⟨c, d⟩ := q
        have hac := hk i a b c d e1 e2
        subst hac
        simp only [Option.map_some, Option.some.injEq] at h1 h2
        by_cases hka : a = k
        · rw [if_pos hka] at h1 h2; cases h1; cases h2; exact ⟨rfl, .inl ⟨rfl, rfl⟩⟩
        · rw [if_neg hka] at h1 h2; cases h1; cases h2; exact ⟨rfl, .inr ⟨rfl, rfl⟩⟩
  | false =>
    rw [hb] at ha
    rw [if_neg (by rw [ha]; exact Bool.false_ne_true), if_neg Bool.false_ne_true]
    refine ⟨by simp [hl], fun i k1 v k2 o2 h1 h2 => ?_⟩
    by_cases hi : i < vs.length
    · rw [List.getElem?_append_left hi] at h1
      rw [List.getElem?_append_left (by rw [← hl]; exact hi)] at h2
      exact ⟨hk i k1 v k2 o2 h1 h2, .inr ⟨h1, h2⟩⟩
    · rw [List.getElem?_append_right (by omega)] at h1 h2
      have h0 : i - vs.length = 0 := by
        have := (List.getElem?_eq_some_iff.mp h1).1
        simp at this; omega
      rw [h0] at h1
      rw [← hl, h0] at h2
      simp at h1 h2
      exact ⟨h1.1.symm.trans h2.1, .inl ⟨h1.2.symm, h2.2.symm⟩⟩
end
/-! ### keys -/
def keyW : PyData → Option Key
  | .int i => some (.inl i)
  | .str x => some (.inr x)
  | _ => none
def keysOf : List PyData → Option (List Key)
  | [] => some []
  | w :: ws => match keyW w, keysOf ws with
    | some k, some ks => some (k :: ks)
    | _, _ => none
def unKey : Key → PyData
  | .inl i => .int i
  | .inr x => .str x
section
variable {X : Cx} {W : WX} {kp : Nat → Bool} {q q1 q2 q3 m : Bool} {e a b c tg iter elt o i value : Expr} {es rest ifs : List Expr} {pos tpos pos' : Pos} {f fa fb fc fe fo fi : En → Rs Vl} {h : En → Rs O} {K : PySem.W.Frag} {mg : Str → Option Value}
theorem RW.key {ω : Om} {H : Hp} {v : V} {w : PyData} {k : Key} (r : RW K ω H v w) (h : keyW w = some k) : v = kV k := by
  cases r with
  | int i => cases h; rfl
  | str x => cases h; rfl
  | _ => cases h
theorem RWs.keys {ω : Om} {H : Hp} : ∀ {ws : List PyData} {vs : List V} {ks : List Key}, RWs K ω H vs ws → keysOf ws = some ks → vs = ks.map kV
  | [], vs, ks, r, h => by
    cases h
    exact List.length_eq_zero_iff.mp (by simpa using r.1)
  | w :: ws, [], ks, r, h => by have := r.1; simp at this
  | w :: ws, v :: vs, ks, r, h => by
    rw [keysOf] at h
    cases h1 : keyW w with
    | none => rw [h1] at h; cases h
    | some k =>
      cases h2 : keysOf ws with
      | none => rw [h1, h2] at h; cases h
      | some ks' =>
        rw [h1, h2] at h; cases h
        have rt : RWs K ω H vs ws := ⟨by have := r.1; simpa using this, fun i v' w' e1 e2 => r.2 (i + 1) v' w' (by simpa using e1) (by simpa using e2)⟩
        rw [List.map_cons, RW.key (r.2 0 v w rfl rfl) h1, RWs.keys rt h2]
theorem RW.unkey {ω : Om} {H : Hp} (k : Key) : RW K ω H (kV k) (unKey k) := by
  cases k with
  | inl i => exact .int i
  | inr x => exact .str x
/-- a tuple that is a key -/
theorem RW.tkey {ω : Om} {H : Hp} {v : V} {ws : List PyData} {ks : List Key} (r : RW K ω H v (.tuple ws)) (h : keysOf ws = some ks) : ∃ b, v = .ref b ∧ H b = some (.tup (ks.map kV)) := by
  cases r with
  | @tup a vs _ f l g => exact ⟨a, rfl, by rw [← RWs.keys ⟨l, g⟩ h]; exact f.1⟩
/-! ### looking up -/
def leafO : Option O → Option PyData
  | some (.lf w) => some w
  | _ => none
def gDget : Vl → Vl → Option Vl := fun x y => match x, y with
  | .pl (.dct os) _, .lf w => match keyW w with
    | some k => (leafO (dFind k os)).map .lf
    | none => none
  | .pl (.dcT os) _, .lf (.tuple ws) => match keysOf ws with
    | some k => (leafO (dFind k os)).map .lf
    | none => none
  | .pl (.dcL os) _, .lf (.tuple ws) => match keysOf ws with
    | some k => (leafO (dFind k os)).map .lf
    | none => none
  | _, _ => none
def rDGet : R2 := fun x y H Q => ∃ a v, x = .ref a ∧ DGet H a y (some v) ∧ Q v H
theorem dct_get {ω : Om} {H : Hp} {p : List Nat} {v : V} {os : List (Key × O)} (r : RO K ω H p v (.dct os)) (k : Key) : ∃ a, v = .ref a ∧ (match dFind k os with
    | some o => ∃ u i, DGet H a (kV k) (some u) ∧ RO K ω H (p ++ [i]) u o
    | none => DGet H a (kV k) none) := by
  cases r with
  | @dct _ a vs _ e1 e2 l kk g =>
    refine ⟨a, rfl, ?_⟩
    have := dct_rel (P := fun i v o => RO K ω H (p ++ [i]) v o) k 0 l kk (fun i k v k' o h1 h2 => by rw [Nat.zero_add]; exact g i k v k' o h1 h2)
    split at this
    · obtain ⟨u, i, h1, h2⟩ := this
      exact ⟨u, i, by rw [← h1]; exact DGet.k e2, h2⟩
    · rw [← this]; exact DGet.k e2
theorem dcT_get {ω : Om} {H : Hp} {p : List Nat} {v : V} {b : Addr} {os : List (List Key × O)} (r : RO K ω H p v (.dcT os)) (k : List Key) (hb : H b = some (.tup (k.map kV))) : ∃ a, v = .ref a ∧ (match dFind k os with
    | some o => ∃ u i, DGet H a (.ref b) (some u) ∧ RO K ω H (p ++ [i]) u o
    | none => DGet H a (.ref b) none) := by
  cases r with
  | @dcT _ a vs _ e1 e2 l kk g =>
    refine ⟨a, rfl, ?_⟩
    have := dct_rel (P := fun i v o => RO K ω H (p ++ [i]) v o) k 0 l kk (fun i k v k' o h1 h2 => by rw [Nat.zero_add]; exact g i k v k' o h1 h2)
    split at this
    · obtain ⟨u, i, h1, h2⟩ := this
      exact ⟨u, i, by rw [← h1]; exact DGet.t e2 hb, h2⟩
    · rw [← this]; exact DGet.t e2 hb
theorem dcL_get {ω : Om} {H : Hp} {p : List Nat} {v : V} {b : Addr} {os : List (List Key × O)} (r : RO K ω H p v (.dcL os)) (k : List Key) (hb : H b = some (.tup (k.map kV))) : ∃ a, v = .ref a ∧ (match dFind k os with
    | some o => ∃ u i, DGet H a (.ref b) (some u) ∧ RO K ω H (p ++ [i]) u o
    | none => DGet H a (.ref b) none) := by
  cases r with
  | @dcL _ a od vs _ e1 e2 l kk g =>
    refine ⟨a, rfl, ?_⟩
    have := dct_rel (P := fun i v o => RO K ω H (p ++ [i]) v o) k 0 l kk (fun i k v k' o h1 h2 => by rw [Nat.zero_add]; exact g i k v k' o h1 h2)
    have dg : ∀ r, r = valV vs k → DGet H a (.ref b) r := fun r e => .inr ⟨vs, k, b, .inr ⟨od, e2⟩, rfl, hb, e⟩
    split at this
    · obtain ⟨u, i, h1, h2⟩ := this
      exact ⟨u, i, dg _ h1.symm, h2⟩
    · exact dg _ this.symm
theorem opv_dget : OpV K rDGet gDget := by
  intro B ω σ H env x y a b z Q G r1 r2 e hq
  unfold gDget at e
  split at e
  · rename_i os up w
    split at e
    · rename_i k hk
      obtain ⟨p, ro, _⟩ := r1
      obtain ⟨a, rfl, hg⟩ := dct_get ro k
      have hy := RW.key (show RW K ω H y w from r2) hk
      subst hy
      cases hd : dFind k os with
      | none => rw [hd] at e; cases e
      | some o =>
        rw [hd] at e hg
        cases o with
        | lf z' =>
          cases e
          obtain ⟨u, i, h1, h2⟩ := hg
          cases h2 with
          | lf r => exact ⟨a, u, rfl, h1, hq ω H u (.refl _ _) G r⟩
        | _ => cases e
    · cases e
  · rename_i os up ws
    split at e
    · rename_i k hk
      obtain ⟨p, ro, _⟩ := r1
      obtain ⟨b, rfl, hb⟩ := RW.tkey (show RW K ω H y (.tuple ws) from r2) hk
      obtain ⟨a, rfl, hg⟩ := dcT_get ro k hb
      cases hd : dFind k os with
      | none => rw [hd] at e; cases e
      | some o =>
        rw [hd] at e hg
        cases o with
        | lf z' =>
          cases e
          obtain ⟨u, i, h1, h2⟩ := hg
          cases h2 with
          | lf r => exact ⟨a, u, rfl, h1, hq ω H u (.refl _ _) G r⟩
        | _ => cases e
    · cases e
  · rename_i os up ws
    split at e
    · rename_i k hk
      obtain ⟨p, ro, _⟩ := r1
      obtain ⟨b, rfl, hb⟩ := RW.tkey (show RW K ω H y (.tuple ws) from r2) hk
      obtain ⟨a, rfl, hg⟩ := dcL_get ro k hb
      cases hd : dFind k os with
      | none => rw [hd] at e; cases e
      | some o =>
        rw [hd] at e hg
        cases o with
        | lf z' =>
          cases e
          obtain ⟨u, i, h1, h2⟩ := hg
          cases h2 with
          | lf r => exact ⟨a, u, rfl, h1, hq ω H u (.refl _ _) G r⟩
        | _ => cases e
    · cases e
  · cases e
theorem ve_dget (hu : X.A.units + 1 < cLine) (ha : VE X W q1 a fa) (hb : VE X W q2 b fb) (hs : NoSl b := by intro _ _; rfl) : VE X W (q1 && q2) (.Subscript a b pos) (fBinV q2 gDget fa fb) := by
  obtain ⟨ta, pa, sa⟩ := ha.ex
  obtain ⟨tb, pb, sb⟩ := hb.ex
  exact ⟨_, pe_dget hu pa pb hs, se_binV opv_dget sa sb⟩
def gDin (neg : Bool) : G2 := fun y x => match x, y with
  | .pl (.dct os) _, .lf w => match keyW w with
    | some k => some (.bool (neg != (dFind k os).isSome))
    | none => none
  | .pl (.dcT os) _, .lf (.tuple ws) => match keysOf ws with
    | some k => some (.bool (neg != (dFind k os).isSome))
    | none => none
  | _, _ => none
def rDIn (neg : Bool) : R2 := fun y x H Q => ∃ a o, x = .ref a ∧ DGet H a y o ∧ Q (.bl (neg != o.isSome)) H
theorem ops_din (neg : Bool) : OpS K (rDIn neg) (gDin neg) := by
  intro B ω σ H env y x b a z Q G r2 r1 e hq
  unfold gDin at e
  split at e
  · rename_i os up w
    split at e
    · rename_i k hk
      obtain ⟨p, ro, _⟩ := r1
      obtain ⟨a, rfl, hg⟩ := dct_get ro k
      have hy := RW.key (show RW K ω H y w from r2) hk
      subst hy
      cases hd : dFind k os with
      | none => rw [hd] at e hg; cases e; exact ⟨a, none, rfl, hg, hq ω H _ (.refl _ _) G (.bl _)⟩
      | some o =>
        rw [hd] at e hg
        cases e
        obtain ⟨u, i, h1, h2⟩ := hg
        exact ⟨a, some u, rfl, h1, hq ω H _ (.refl _ _) G (.bl _)⟩
    · cases e
  · rename_i os up ws
    split at e
    · rename_i k hk
      obtain ⟨p, ro, _⟩ := r1
      obtain ⟨b, rfl, hb⟩ := RW.tkey (show RW K ω H y (.tuple ws) from r2) hk
      obtain ⟨a, rfl, hg⟩ := dcT_get ro k hb
      cases hd : dFind k os with
      | none => rw [hd] at e hg; cases e; exact ⟨a, none, rfl, hg, hq ω H _ (.refl _ _) G (.bl _)⟩
      | some o =>
        rw [hd] at e hg
        cases e
        obtain ⟨u, i, h1, h2⟩ := hg
        exact ⟨a, some u, rfl, h1, hq ω H _ (.refl _ _) G (.bl _)⟩
    · cases e
  · cases e
theorem pc_dinM (hu : X.A.units + 1 < cLine) {ta tb : TE} (ha : PE X a ta) (hb : PE X b tb) : PC X .In a b (tOp (rDIn false) ta tb) := by
  have := pc_din hu ha hb
  refine ⟨fun pins s σ H Q I z => this.run pins s σ H Q I ?_⟩
  have he : tDIn ta tb = tOp (rDIn false) ta tb := by
    funext σ H Q
    unfold tDIn tOp rDIn
    simp
  rw [he]; exact z
theorem pc_dnotinM (hu : X.A.units + 1 < cLine) {ta tb : TE} (ha : PE X a ta) (hb : PE X b tb) : PC X .NotIn a b (tOp (rDIn true) ta tb) := by
  have := pc_dnotin hu ha hb
  refine ⟨fun pins s σ H Q I z => this.run pins s σ H Q I ?_⟩
  have he : tDNotIn ta tb = tOp (rDIn true) ta tb := by
    funext σ H Q
    unfold tDNotIn tOp rDIn
    simp
  rw [he]; exact z
theorem ve_din (hu : X.A.units + 1 < cLine) (ha : VE X W q1 a fa) (hb : VE X W q2 b fb) (hm : behindInMarks .In b = false := by with_unfolding_all rfl) : VE X W (q1 && q2) (.Compare a [.In] [b] pos) (fBin q2 (gDin false) fa fb) := by
  obtain ⟨ta, pa, sa⟩ := ha.ex
  obtain ⟨tb, pb, sb⟩ := hb.ex
  exact ⟨_, pe_cmp (pc_dinM hu pa pb) hm, se_bin (ops_din false) sa sb⟩
theorem vt_din (hu : X.A.units + 1 < cLine) (ha : VE X W q1 a fa) (hb : VE X W q2 b fb) (hm : behindInMarks .In b = false := by with_unfolding_all rfl) : VT X W (q1 && q2) (.Compare a [.In] [b] pos) (fTst (fBin q2 (gDin false) fa fb)) := by
  obtain ⟨ta, pa, sa⟩ := ha.ex
  obtain ⟨tb, pb, sb⟩ := hb.ex
  exact ⟨_, pt_cmp (pc_dinM hu pa pb) hm, st_tst (se_bin (ops_din false) sa sb)⟩
theorem ve_dnotin (hu : X.A.units + 1 < cLine) (ha : VE X W q1 a fa) (hb : VE X W q2 b fb) (hm : behindInMarks .NotIn b = false := by with_unfolding_all rfl) : VE X W (q1 && q2) (.Compare a [.NotIn] [b] pos) (fBin q2 (gDin true) fa fb) := by
  obtain ⟨ta, pa, sa⟩ := ha.ex
  obtain ⟨tb, pb, sb⟩ := hb.ex
  exact ⟨_, pe_cmp (pc_dnotinM hu pa pb) hm, se_bin (ops_din true) sa sb⟩
theorem vt_dnotin (hu : X.A.units + 1 < cLine) (ha : VE X W q1 a fa) (hb : VE X W q2 b fb) (hm : behindInMarks .NotIn b = false := by with_unfolding_all rfl) : VT X W (q1 && q2) (.Compare a [.NotIn] [b] pos) (fTst (fBin q2 (gDin true) fa fb)) := by
  obtain ⟨ta, pa, sa⟩ := ha.ex
  obtain ⟨tb, pb, sb⟩ := hb.ex
  exact ⟨_, pt_cmp (pc_dnotinM hu pa pb) hm, st_tst (se_bin (ops_din true) sa sb)⟩
/-! ### storing -/
theorem dct_put {B : Nat} {ω : Om} {σ : L2.St} {H : Hp} {env : En} {v : V} {os : List (Key × O)} {up : O → En} (G : Good K B ω σ H env) (r : RV K ω σ H v (.pl (.dct os) up)) (k : Key) : ∃ a vs p, v = .ref a ∧ ω a = .mine p ∧ H a = some (.dK vs) ∧ vs.length = os.length ∧
    ∀ y w, RW K ω H y w → Good K B ω σ (upd H a (.dK (putK vs k y))) (up (.dct (dPut k (.lf w) os))) := by
  obtain ⟨p, ro, L, hpp, hup⟩ := r
  cases ro with
  | @dct _ a vs _ e1 e2 l kk g =>
    refine ⟨a, vs, p, rfl, e1, e2, l, fun y w ry => (Lens.put G L (hup _) e1 e2 (.dct e1 upd_same (put_rel l kk).1 (fun i k1 v1 k2 o2 h1 h2 => ((put_rel l kk).2 i k1 v1 k2 o2 h1 h2).1) fun i k1 v1 k2 o2 h1 h2 => ?_)).2⟩
    obtain ⟨rfl, ⟨rfl, rfl⟩ | ⟨h3, h4⟩⟩ := (put_rel l kk).2 i k1 v1 k2 o2 h1 h2
    · exact .lf (ry.beside e1)
    · exact (g i k1 v1 k1 o2 h3 h4).kid e1
theorem dcT_put {B : Nat} {ω : Om} {σ : L2.St} {H : Hp} {env : En} {v : V} {os : List (List Key × O)} {up : O → En} (G : Good K B ω σ H env) (r : RV K ω σ H v (.pl (.dcT os) up)) (k : List Key) : ∃ a vs p, v = .ref a ∧ ω a = .mine p ∧ H a = some (.dT vs) ∧ vs.length = os.length ∧
    ∀ y w, RW K ω H y w → Good K B ω σ (upd H a (.dT (putK vs k y))) (up (.dcT (dPut k (.lf w) os))) := by
  obtain ⟨p, ro, L, hpp, hup⟩ := r
  cases ro with
  | @dcT _ a vs _ e1 e2 l kk g =>
    refine ⟨a, vs, p, rfl, e1, e2, l, fun y w ry => (Lens.put G L (hup _) e1 e2 (.dcT e1 upd_same (put_rel l kk).1 (fun i k1 v1 k2 o2 h1 h2 => ((put_rel l kk).2 i k1 v1 k2 o2 h1 h2).1) fun i k1 v1 k2 o2 h1 h2 => ?_)).2⟩
    obtain ⟨rfl, ⟨rfl, rfl⟩ | ⟨h3, h4⟩⟩ := (put_rel l kk).2 i k1 v1 k2 o2 h1 h2
    · exact .lf (ry.beside e1)
    · exact (g i k1 v1 k1 o2 h3 h4).kid e1
def fDput (fe fo fi : En → Rs Vl) : En → Rs Fl := fun env => (fe env).bind fun x e => (fo e).bind fun o e1 => (fi e1).bind fun i e2 => match o, i, x with
  | .pl (.dct os) up, .lf w, .lf z => match keyW w with
    | some k => if os.length < sizeLine then .ok .nx (up (.dct (dPut k (.lf z) os))) else .bad
    | none => .bad
  | .pl (.dcT os) up, .lf (.tuple ws), .lf z => match keysOf ws with
    | some k => if os.length < sizeLine then .ok .nx (up (.dcT (dPut k (.lf z) os))) else .bad
    | none => .bad
  | _, _, _ => .bad
theorem vs_dput (hu : X.A.units + 1 < cLine) (he : VE X W q e fe) (ho : VE X W true o fo) (hi : VE X W true i fi) (hs : swapsWith e (some (.Subscript o i pos')) pos.line X.env = pure false := by rfl) : VS X W kp (.Assign [.Subscript o i pos'] e pos) (fDput fe fo fi) := by
  obtain ⟨te, pe, se⟩ := he.ex
  obtain ⟨to, po, so⟩ := ho.ex
  obtain ⟨ti, pi, si⟩ := hi.ex
  refine ⟨_, ps_dput hu po pi pe hs, fun B ω σ H env D G z => se.run B ω σ H env _ G ((SPost.bindE z).imp fun x e ω1 H1 _ ev qu G1 h1 => fun v rv => ?_)⟩
  refine so.run B ω1 σ H1 e _ G1 ((SPost.bindE (q := true) h1).imp fun o' e1 ω2 H2 ho' ev2 qu2 G2 h2 => fun ov ro => ?_)
  have heq := so.st rfl _ _ _ ho'
  subst heq
  refine si.run B ω2 σ H2 e1 _ G2 ((SPost.bindE (q := true) h2).imp fun i' e2 ω3 H3 hi' ev3 qu3 G3 h3 => fun iv ri => ?_)
  have heq := si.st rfl _ _ _ hi'
  subst heq
  have ro3 := ro.quiet (qu3 rfl)
  split at h3
  · rename_i os up w z' hfe
    split at h3
    · rename_i k hk
      split at h3
      · rename_i hsz
        have hy := RW.key (show RW X.K ω3 H3 iv w from ri) hk
        subst hy
        have rv3 : RW X.K ω3 H3 v z' := RW.evo (ev2.trans ev3) rv
        obtain ⟨a, vs, p, rfl, k1, k2, k3, k4⟩ := dct_put G3 ro3 k
        exact ⟨a, _, rfl, DPut.k k2 (by rw [k3]; exact hsz), h3 ω3 σ _ (evo_upd k1 k2) (.refl _ _) (k4 v z' rv3)⟩
      · exact h3.elim
    · exact h3.elim
  · rename_i os up ws z' hfe
    split at h3
    · rename_i k hk
      split at h3
      · rename_i hsz
        obtain ⟨b, rfl, hb⟩ := RW.tkey (show RW X.K ω3 H3 iv (.tuple ws) from ri) hk
        have rv3 : RW X.K ω3 H3 v z' := RW.evo (ev2.trans ev3) rv
        obtain ⟨a, vs, p, rfl, k1, k2, k3, k4⟩ := dcT_put G3 ro3 k
        exact ⟨a, _, rfl, DPut.t k2 hb (by rw [k3]; exact hsz), h3 ω3 σ _ (evo_upd k1 k2) (.refl _ _) (k4 v z' rv3)⟩
      · exact h3.elim
    · exact h3.elim
  · exact h3.elim
/-! ### made -/
def fODct : En → Rs O := fun env => .ok (.dct []) env
def fODcT : En → Rs O := fun env => .ok (.dcT []) env
theorem vo_dnew : VO X W (.Dict [] [] pos) fODct := ⟨_, pe_dnewK, fun B ω σ H env Q G z => fun p hp => by
  obtain ⟨k1, k2, k3⟩ := new_own (u := .dK []) G hp
  exact z _ _ _ k1 k2 (.dct (vs := []) (by simp) upd_same rfl (fun i k v k' o h => by simp at h) (fun i k v k' o h => by simp at h))⟩
theorem vo_dnewT : VO X W (.Dict [] [] pos) fODcT := ⟨_, pe_dnewT, fun B ω σ H env Q G z => fun p hp => by
  obtain ⟨k1, k2, k3⟩ := new_own (u := .dT []) G hp
  exact z _ _ _ k1 k2 (.dcT (vs := []) (by simp) upd_same rfl (fun i k v k' o h => by simp at h) (fun i k v k' o h => by simp at h))⟩
/-! ### a list of the keys -/
theorem paired_get {α β : Type} {F : α → β → Prop} {l1 : List α} {l2 : List β} (h : Paired F l1 l2) : ∀ {i : Nat} {x y}, l1[i]? = some x → l2[i]? = some y → F x y := by
  induction h with
  | nil => intro i x y h; simp at h
  | cons h0 _ ih =>
    intro i x y h1 h2
    cases i with
    | zero => simp at h1 h2; subst h1; subst h2; exact h0
    | succ i => simp at h1 h2; exact ih h1 h2
def gListT : List Vl → Option PyData
  | [.pl (.dcT os) _] => some (.list (os.map fun p => .tuple (p.1.map unKey)))
  | _ => none
theorem cals_listT : CalS K (fun xs H Q => ∃ d kvs, xs = [V.ref d] ∧ Rd H d (.dT kvs) ∧ ∀ p bs, H p = none → IsKeys H kvs bs → Q (.ref p) (upd H p (.lst (bs.map V.ref)))) gListT := by
  intro B ω σ H env vs xs z Q G r e hq
  unfold gListT at e
  split at e
  · rename_i os up
    cases e
    obtain ⟨v, us, rfl, r1, r2⟩ := r.cons_inv
    have := r2.nil_inv
    subst this
    obtain ⟨p, ro, _⟩ := r1
    cases ro with
    | @dcT _ a kvs _ e1 e2 l kk g =>
      refine ⟨a, kvs, rfl, .inl e2, fun D bs hD hk => hq ω _ (.ref D) (.alloc hD) (G.alloc hD) ?_⟩
      refine RW.newL G hD ⟨?_, fun i v w h1 h2 => ?_⟩
      · have := Paired.length hk
        simp only [List.length_map]; omega
      · rw [List.getElem?_map] at h1 h2
        cases hb : bs[i]? with
        | none => rw [hb] at h1; cases h1
        | some b =>
          cases ho : os[i]? with
          | none => rw [ho] at h2; cases h2
          | some o =>
            rw [hb] at h1; rw [ho] at h2; cases h1; cases h2
            have hi : i < kvs.length := by rw [l]; exact (List.getElem?_eq_some_iff.mp ho).1
            have hkv : kvs[i]? = some kvs[i] := by simp [hi]
            have hp := paired_get hk hkv hb
            have hkk := kk i kvs[i].1 kvs[i].2 o.1 o.2 hkv ho
            refine .tup (vs := o.1.map kV) ⟨by rw [← hkk]; exact hp, G.wf b (by rw [hp]; trivial)⟩ (by simp) fun j v w h3 h4 => ?_
            rw [List.getElem?_map] at h3 h4
            cases hj : o.1[j]? with
            | none => rw [hj] at h3; cases h3
            | some k => rw [hj] at h3 h4; cases h3; cases h4; exact RW.unkey k
  · cases e
end
end MV
set_option Elab.async false
set_option linter.all false
set_option maxRecDepth 100000
set_option maxHeartbeats 4000000
/-! More operators; insert; dicts written out; a new thing's item. -/
namespace MV
open PySem PySem.Spec PyProof.Rows L2
section
variable {X : Cx} {W : WX} {kp : Nat → Bool} {q q1 q2 q3 m : Bool} {e a b c tg iter elt o i value : Expr} {es rest ifs : List Expr} {pos tpos pos' : Pos} {f fa fb fc fe fo fi : En → Rs Vl} {h : En → Rs O} {K : PySem.W.Frag} {mg : Str → Option Value}
def gShr : G2 := gI (fun _ j => decide (0 ≤ j)) fun i j => .int (i / 2 ^ j.toNat)
theorem ops_shr : OpS K (rI (fun _ j => 0 ≤ j) fun i j => .int (i / 2 ^ j.toNat)) gShr := ops_rI (fun i j h => of_decide_eq_true h) fun _ _ _ _ => .int _
@[simp] theorem gShr_ii {i j : Int} : gShr (.lf (.int i)) (.lf (.int j)) = if 0 ≤ j then some (.int (i / 2 ^ j.toNat)) else none := by simp [gShr]
def gDivW : G2 := gI (fun _ j => decide (0 < j ∧ j < 18446744073709551616)) fun i j => .int (i / j)
theorem ops_divW : OpS K (rI CDivW fun i j => .int (i / j)) gDivW := ops_rI (fun i j h => by
  obtain ⟨h1, h2⟩ := of_decide_eq_true h
  exact wide_div (b := 64) h1 (by omega) (by decide) (by decide)) fun _ _ _ _ => .int _
@[simp] theorem gDivW_ii {i j : Int} : gDivW (.lf (.int i)) (.lf (.int j)) = if 0 < j ∧ j < 18446744073709551616 then some (.int (i / j)) else none := by simp [gDivW]
def cMulW (i j : Int) : Bool := decide (i.natAbs < 2 ^ 400) && decide (j.natAbs < 2 ^ 400)
def gMulW : G2 := gI cMulW fun i j => .int (i * j)
theorem ops_mulW : OpS K (rI CMulW fun i j => .int (i * j)) gMulW := ops_rI (fun i j h => by
  obtain ⟨h1, h2⟩ := Bool.and_eq_true_iff.mp h
  exact wide_mul (of_decide_eq_true h1) (of_decide_eq_true h2) (by decide) (by decide) (by decide)) fun _ _ _ _ => .int _
@[simp] theorem gMulW_ii {i j : Int} : gMulW (.lf (.int i)) (.lf (.int j)) = if cMulW i j then some (.int (i * j)) else none := rfl
theorem cMulW_of {i j : Int} (h1 : i.natAbs < 2 ^ 400) (h2 : j.natAbs < 2 ^ 400) : cMulW i j = true := by
  unfold cMulW; rw [decide_eq_true h1, decide_eq_true h2]; rfl
/-! ### insert -/
def fIns (i : Nat) (fk fe : En → Rs Vl) : En → Rs Fl := fun env => match env[i]? with
  | some (some (.lst _)) => (fk env).bind fun k e => (fe e).bind fun x e2 => (match k, x, e2[i]? with
    | .lf (.int j), .lf w, some (some (.lst os)) => if os.length < sizeLine ∧ 0 ≤ j ∧ j < 9223372036854775808 then (match lfs os with
      | some ws => .ok .nx (e2.set i (some (.lst ((ws.take j.toNat ++ [w] ++ ws.drop j.toNat).map .lf))))
      | none => .bad) else .bad
    | _, _, _ => .bad)
  | _ => .bad
theorem vs_ins {i : Nat} {x : Str} {b : Expr} {fk fe : En → Rs Vl} {p1 apos cpos : Pos} (hk : VE X W q1 b fk) (he : VE X W q2 e fe) (hN : X.N[i]? = some x := by rfl) (hv : Vis X.env.scope x := by first | exact Or.inl rfl | exact Or.inr (Or.inl rfl) | exact Or.inr (Or.inr rfl)) (hd : (x == ("__debug__" : Str)) = false := by decide)
    (hcd : (x == ("__classdict__" : Str)) = false := by decide) (hse1 : starEach [b, e] X.env = (false, eval b X.env) :: starEach [e] X.env := by rfl) (hse : starEach [e] X.env = (false, eval e X.env) :: starEach [] X.env := by rfl)
    (hs : swapsWith (.Call (.Attribute (.Name x p1) "insert" apos) [b, e] [] cpos) none pos.line X.env = pure false := by rfl)
    (hpe : ∀ (to : TE) (t : TA), PE X (.Name x p1) to → PA X [b, e] t → ∃ te, PE X (.Call (.Attribute (.Name x p1) "insert" apos) [b, e] [] cpos) te ∧ te = tBM X.K "list" (fun x vs H Q => ∃ (l : Addr) (xs : List V) (i : Int) (y : V), x = .ref l ∧ vs = [.int i, y] ∧ H l = some (.lst xs) ∧ xs.length < sizeLine ∧ 0 ≤ i ∧ i < 2 ^ 63 ∧
    Q .non (upd H l (.lst (xs.take i.toNat ++ [y] ++ xs.drop i.toNat)))) to t := by intro _ _ h1 h2; exact ⟨_, pe_bm PySem.F.plainAttrs_list PySem.F.slot_list_insert PySem.F.type_list_insert mt_insert h1 h2, rfl⟩) :
    VS X W kp (.Expr (.Call (.Attribute (.Name x p1) "insert" apos) [b, e] [] cpos) pos) (fIns i fk fe) := by
  obtain ⟨tk, pk, sk⟩ := hk.ex
  obtain ⟨te, pe, se⟩ := he.ex
  obtain ⟨tt, pp, ht⟩ := hpe _ _ (pe_var hN hv hd hcd) (pa_cons pk (pa_cons pe pa_nil hse) hse1)
  subst ht
  refine ⟨_, ps_expr pp hs, fun B ω σ H env D G z => ?_⟩
  unfold fIns at z
  split at z
  · rename_i os0 h0
    obtain ⟨v, e1, rv0⟩ := slot_rv G h0
    refine ⟨v, e1, ty_list rv0, sk.run B ω σ H env _ G ((SPost.bindE z).imp fun y e' ω1 H1 _ ev qu G1 h1 => fun u ru => ?_)⟩
    refine se.run B ω1 σ H1 e' _ G1 ((SPost.bindE h1).imp fun y2 e2 ω2 H2 _ ev2 qu2 G2 h2 => fun u2 ru2 => ?_)
    split at h2
    · rename_i j w os hi _ _
      split at h2
      · rename_i hsz
        obtain ⟨hsz, hj0, hj1⟩ := hsz
        split at h2
        · rename_i ws hws
          have hos := lfs_get hws
          obtain ⟨v', e1', rv1⟩ := slot_rv G2 hi
          rw [e1] at e1'; cases e1'
          cases (show RW X.K ω1 H1 u (.int j) from ru)
          have hit : (Vl.pl (.lst os) fun o' => e2.set i (some o')).items = some ws := by rw [hos]; exact lfs_map ws
          obtain ⟨a2, vs2, hv2, _, rr⟩ := rv1.items hit
          obtain ⟨a, vs, rfl, hH, hl, hput⟩ := lst_put (os' := (ws.take j.toNat ++ [w] ++ ws.drop j.toNat).map .lf) G2 rv1
          have rr : RWs X.K ω2 H2 vs ws := by
            obtain ⟨p, ro, _⟩ := rv1
            cases ro with
            | @lst _ _ vs' _ e1 e2 l g =>
              rw [hH] at e2; cases e2
              subst hos
              refine ⟨by simpa using l, fun n v w h3 h4 => ?_⟩
              have := g n v (.lf w) h3 (by rw [List.getElem?_map, h4]; rfl)
              cases this with
              | lf r => exact r
          have r2 : RWs X.K ω2 H2 (vs.take j.toNat ++ [u2] ++ vs.drop j.toNat) (ws.take j.toNat ++ [w] ++ ws.drop j.toNat) :=
            RWs.append (RWs.append (rr.take _) (RWs.cons (show RW X.K ω2 H2 u2 w from ru2) .nil)) (rr.drop _)
          obtain ⟨ev3, G3⟩ := hput (vs.take j.toNat ++ [u2] ++ vs.drop j.toNat) (by rw [r2.1, List.length_map]) fun n v' o' y1 y2 => by
            rw [List.getElem?_map] at y2
            cases t : (ws.take j.toNat ++ [w] ++ ws.drop j.toNat)[n]? with
            | none => rw [t] at y2; cases y2
            | some w' => rw [t] at y2; cases y2; exact .inr ⟨w', rfl, .inl (r2.2 n v' w' y1 t)⟩
          exact ⟨a, vs, j, u2, rfl, rfl, hH, by rw [hl]; exact hsz, hj0, by omega, h2 ω2 σ _ ev3 (.refl _ _) G3⟩
        · exact h2.elim
      · exact h2.elim
    · exact h2.elim
  · exact z.elim
/-! ### dicts written out: the keys stand in the text -/
structure VPs (X : Cx) (W : WX) (pos : Pos) (keys : List (Option Expr)) (values : List Expr) (ks : List Key) (f : En → Rs (List PyData)) : Prop where
  ex : ∃ trs, PPs X pos keys values trs ∧ (∀ env x e, f env = .ok x e → e = env ∧ x.length = ks.length) ∧ ∀ B ω σ H env Q, Good X.K B ω σ H env → (match f env with
    | .ok ws _ => ∀ ω' H' vs, Quiet ω H ω' H' → Good X.K B ω' σ H' env → RWs X.K ω' H' vs ws → Q ((ks.zip vs).map fun p => (kV p.1, p.2)) H'
    | _ => False) → tPairs trs σ H Q
def pNil : En → Rs (List PyData) := fun env => .ok [] env
def pCons (f : En → Rs Vl) (fr : En → Rs (List PyData)) : En → Rs (List PyData) := fun env => match f env with
  | .ok (.lf w) e => (match fr e with
    | .ok ws e' => .ok (w :: ws) e'
    | _ => .bad)
  | _ => .bad
theorem vps_nil : VPs X W pos [] [] [] pNil := ⟨[], pps_nil, fun env x e h => by cases h; exact ⟨rfl, rfl⟩, fun B ω σ H env Q G h => h ω H [] (.refl _ _) G .nil⟩
theorem vps_cons {ke ve : Expr} {kes : List (Option Expr)} {ves : List Expr} {k : Key} {ks : List Key} {fr : En → Rs (List PyData)} (hk : PE X ke (tC (kV k))) (hv : VE X W true ve f) (hr : VPs X W pos kes ves ks fr) : VPs X W pos (some ke :: kes) (ve :: ves) (k :: ks) (pCons f fr) := by
  obtain ⟨tv, pv, sv⟩ := hv.ex
  obtain ⟨trs, pr, st, sr⟩ := hr.ex
  refine ⟨_, pps_cons hk pv pr, fun env x e z => ?_, fun B ω σ H env Q G z => ?_⟩
  · unfold pCons at z
    split at z
    · rename_i w e1 h1
      split at z
      · rename_i ws e2 h2
        cases z
        have := sv.st rfl _ _ _ h1
        subst this
        obtain ⟨h3, h4⟩ := st _ _ _ h2
        exact ⟨h3, by simp [h4]⟩
      · cases z
    · cases z
  · show tv σ H _
    refine sv.run B ω σ H env _ G ?_
    unfold pCons at z
    cases h1 : f env with
    | bad => rw [h1] at z; exact z.elim
    | ex c e => rw [h1] at z; exact z.elim
    | ok y e =>
      have := sv.st rfl _ _ _ h1
      subst this
      rw [h1] at z
      intro ω1 H1 ev1 qu1 G1 u ru
      cases y with
      | pl o up => exact z.elim
      | lf w =>
        refine sr B ω1 σ H1 e _ G1 ?_
        cases h2 : fr e with
        | bad => simp only [h2] at z
        | ex c e' => simp only [h2] at z
        | ok ws e' =>
          simp only [h2] at z
          intro ω2 H2 vs qu2 G2 rr
          exact z ω2 H2 (u :: vs) ((qu1 rfl).trans qu2) G2 (RWs.cons (RW.evo qu2.evo ru) rr)
theorem mergeK_nodup : ∀ {kvs acc : List (Key × V)}, ((acc ++ kvs).map (·.1)).Nodup → mergeK acc kvs = acc ++ kvs
  | [], acc, _ => by rw [List.append_nil]; rfl
  | (k, v) :: kvs, acc, h => by
    have hn : (acc.any fun p => decide (p.1 = k)) = false := by
      rw [Bool.eq_false_iff]
      intro t
      rw [List.any_eq_true] at t
      obtain ⟨⟨k', v'⟩, hm, hd⟩ := t
      have hk : k' = k := of_decide_eq_true hd
      subst hk
      rw [List.map_append, List.nodup_append] at h
      exact h.2.2 k' (List.mem_map.mpr ⟨_, hm, rfl⟩) k' (by simp) rfl
    have e1 : mergeK acc ((k, v) :: kvs) = mergeK (putK acc k v) kvs := rfl
    rw [e1]
    have e2 : putK acc k v = acc ++ [(k, v)] := by unfold putK; rw [if_neg (by rw [hn]; exact Bool.false_ne_true)]
    rw [e2, mergeK_nodup (by rw [List.append_assoc]; exact h), List.append_assoc]
    rfl
def fODisp (ks : List Key) (fr : En → Rs (List PyData)) : En → Rs O := fun env => match fr env with
  | .ok ws e => .ok (.dct ((ks.zip ws).map fun p => (p.1, .lf p.2))) e
  | _ => .bad
theorem vo_disp {keys : List (Option Expr)} {values : List Expr} {ks : List Key} {fr : En → Rs (List PyData)} (h : VPs X W pos keys values ks fr) (nd : ks.Nodup := by decide +kernel) (hall : keys.all (·.isSome) = true := by rfl) (hl : keys.length = values.length := by rfl) (h0 : keys ≠ [] := by exact fun t => nomatch t)
    (h15 : keys.length ≤ 15 := by decide) (hkl : ks.length ≤ 15 := by decide) : VO X W (.Dict keys values pos) (fODisp ks fr) := by
  obtain ⟨trs, pr, st, sr⟩ := h.ex
  refine ⟨_, pe_disp pr hall hl h0 h15, fun B ω σ H env Q G z => fun p hp => ?_⟩
  obtain ⟨ev1, G1, hrw⟩ := new_own (u := .dK []) G hp
  have hlen : env.length ≤ B := G.nB
  have G2 := G1.hide hlen
  refine sr B _ σ _ env _ G2 ?_
  unfold fODisp at z
  cases hf : fr env with
  | bad => rw [hf] at z; exact z.elim
  | ex c e => rw [hf] at z; exact z.elim
  | ok ws e =>
    rw [hf] at z
    obtain ⟨rfl, hwl⟩ := st _ _ _ hf
    intro ω2 H2 vs qu G3 rr
    have sh := shown (p := [B]) G1 qu G3
    have hpB : (fun a => if a = p then Ow.mine [B] else ω a) p = .mine (B :: []) := by simp
    have hH2 : H2 p = some (.dK []) := (sh.sep p [] hpB).2.trans upd_same
    have hω3 : ωshow B [B] (fun a => if a = p then Ow.mine [B] else ω a) ω2 p = .mine [B] := by rw [show_B hpB]; rfl
    have hvl : vs.length = ks.length := rr.1.trans hwl
    have hmk : mergeK [] (ks.zip vs) = ks.zip vs := by
      rw [mergeK_nodup, List.nil_append]
      rw [List.nil_append, List.map_fst_zip (by omega)]
      exact nd
    refine ⟨hH2, ks.zip vs, rfl, by rw [List.length_zip]; omega, ?_⟩
    rw [hmk]
    have rr3 : RWs X.K (ωshow B [B] (fun a => if a = p then Ow.mine [B] else ω a) ω2) H2 vs ws := ⟨rr.1, fun i v w h1 h2 => (rr.2 i v w h1 h2).tr fun a x e z => ⟨sh.fr a x e z, e⟩⟩
    have G4 : Good X.K (B + 1) (ωshow B [B] (fun a => if a = p then Ow.mine [B] else ω a) ω2) σ (upd H2 p (.dK (ks.zip vs))) e := by
      refine ⟨fun i o h => ?_, fun a q h => ?_, fun a h => ?_, by omega, G3.len⟩
      · obtain ⟨v, h1, h2⟩ := G3.rel i o h
        refine ⟨v, h1, h2.tr [i] (fun a x q y e => ⟨sh.keep a x _ y e, ?_⟩) fun a x e y => ⟨sh.fr a x e y, ?_⟩⟩
        · have hne : a ≠ p := fun t => by rw [t, (sh.sep p [] hpB).1] at y; cases y
          rw [upd_ne hne]; exact e
        · have hne : a ≠ p := fun t => by rw [t, (sh.sep p [] hpB).1] at y; cases y
          rw [upd_ne hne]; exact e
      · rcases isB B (fun a => if a = p then Ow.mine [B] else ω a) a with ⟨z', hz⟩ | hz
        · rw [show_B hz] at h; cases h; exact ⟨B, z', rfl, Nat.lt_succ_self _⟩
        · rw [show_n hz] at h
          obtain ⟨r, y, h1, h2⟩ := G3.root a q h
          exact ⟨r, y, h1, Nat.lt_succ_of_lt h2⟩
      · by_cases hne : a = p
        · subst hne; rw [upd_same] at h; exact h.elim
        · rw [upd_ne hne] at h; exact sh.wf a h
    refine z _ _ (.ref p) ((ev1.trans sh.evo).trans (evo_upd (x := .dK []) hω3 ((sh.sep p [] hpB).2.trans upd_same))) G4 (.dct hω3 upd_same (by simp [List.length_zip, rr.1]) (fun i k v k' o h1 h2 => ?_) fun i k v k' o h1 h2 => ?_)
    · rw [List.getElem?_map] at h2
      cases h3 : (ks.zip ws)[i]? with
      | none => rw [h3] at h2; cases h2
      | some y =>
        rw [h3] at h2; cases h2
        rw [List.getElem?_zip_eq_some] at h1 h3
        have := h1.1.symm.trans h3.1
        exact Option.some.inj this
    · rw [List.getElem?_map] at h2
      cases h3 : (ks.zip ws)[i]? with
      | none => rw [h3] at h2; cases h2
      | some y =>
        rw [h3] at h2; cases h2
        rw [List.getElem?_zip_eq_some] at h1 h3
        exact .lf ((rr3.2 i v y.2 h1.2 h3.2).beside hω3)
/-- {..}[k] -/
def fIxO (h : En → Rs O) (fi : En → Rs Vl) : En → Rs Vl := fun env => (h env).bind fun o e => match fi e with
  | .ok y e' => (match gDget (.pl o fun _ => []) y with
    | some (.lf w) => .ok (.lf w) e'
    | _ => .bad)
  | _ => .bad
theorem ve_ixO (hu : X.A.units + 1 < cLine) (h0 : VO X W a h) (hb : VE X W true b fb) (hs : NoSl b := by intro _ _; rfl) : VE X W false (.Subscript a b pos) (fIxO h fb) := by
  obtain ⟨ta, pa, sa⟩ := h0.ex
  obtain ⟨tb, pb, sb⟩ := hb.ex
  refine ⟨_, pe_dget hu pa pb hs, ⟨fun hq => (nomatch hq), fun B ω σ H env Q G z => sa B ω σ H env _ G ?_⟩⟩
  unfold fIxO at z
  cases hh : h env with
  | bad => rw [hh] at z; exact z
  | ex c e => rw [hh] at z; exact z
  | ok o e =>
    rw [hh] at z
    intro ω1 H1 v ev G1 r
    have hl : e.length ≤ B := by rw [← G1.len, G.len]; exact G.nB
    refine sb.run (B + 1) ω1 σ H1 e _ G1 ?_
    have z2 : EPost X.K X.mg W false B ω σ H (PV X.K σ Q) (match fb e with | .ok y e' => (match gDget (.pl o fun _ => []) y with | some (.lf w) => .ok (.lf w) e' | _ => .bad) | _ => .bad) := z
    clear z
    cases hf : fb e with
    | bad => rw [hf] at z2; exact z2.elim
    | ex c e' => rw [hf] at z2; exact z2.elim
    | ok y e' =>
      rw [hf] at z2
      have := sb.st rfl _ _ _ hf
      subst this
      intro ω2 H2 ev2 qu2 G2 u ru
      dsimp only at z2
      split at z2
      · rename_i w hw
        have r2 := r.quiet (qu2 rfl)
        obtain ⟨ω3, ev3, hrw, G3⟩ := G2.drop1 hl
        have fin : ∀ {x : V}, RW X.K ω2 H2 x w → Q x H2 := fun {x} rx => z2 ω3 H2 ((ev.trans ev2).trans ev3) (fun hq => nomatch hq) G3 x (hrw _ _ rx)
        unfold gDget at hw
        split at hw
        · rename_i os up w0 heq
          cases heq
          split at hw
          · rename_i k hk
            obtain ⟨a, rfl, hg⟩ := dct_get r2 k
            have hy := RW.key (show RW X.K ω2 H2 u w0 from ru) hk
            subst hy
            cases hd : dFind k os with
            | none => rw [hd] at hw; cases hw
            | some o =>
              rw [hd] at hw hg
              cases o with
              | lf z' =>
                cases hw
                obtain ⟨u', i, h1, h2⟩ := hg
                cases h2 with
                | lf r => exact ⟨a, u', rfl, h1, fin r⟩
              | _ => cases hw
          · cases hw
        · rename_i os up ws heq
          cases heq
          split at hw
          · rename_i k hk
            obtain ⟨b, rfl, hb⟩ := RW.tkey (show RW X.K ω2 H2 u (.tuple ws) from ru) hk
            obtain ⟨a, rfl, hg⟩ := dcT_get r2 k hb
            cases hd : dFind k os with
            | none => rw [hd] at hw; cases hw
            | some o =>
              rw [hd] at hw hg
              cases o with
              | lf z' =>
                cases hw
                obtain ⟨u', i, h1, h2⟩ := hg
                cases h2 with
                | lf r => exact ⟨a, u', rfl, h1, fin r⟩
              | _ => cases hw
          · cases hw
        · rename_i os up ws heq
          cases heq
          split at hw
          · rename_i k hk
            obtain ⟨b, rfl, hb⟩ := RW.tkey (show RW X.K ω2 H2 u (.tuple ws) from ru) hk
            obtain ⟨a, rfl, hg⟩ := dcL_get r2 k hb
            cases hd : dFind k os with
            | none => rw [hd] at hw; cases hw
            | some o =>
              rw [hd] at hw hg
              cases o with
              | lf z' =>
                cases hw
                obtain ⟨u', i, h1, h2⟩ := hg
                cases h2 with
                | lf r => exact ⟨a, u', rfl, h1, fin r⟩
              | _ => cases hw
          · cases hw
        · cases hw
      · exact z2.elim
end
end MV
set_option Elab.async false
set_option linter.all false
set_option maxRecDepth 100000
set_option maxHeartbeats 4000000
/-! Instances, dicts, places: equations for simp. -/
namespace MV
open PySem PySem.Spec PyProof.Rows L2
theorem na_of {K : PySem.W.Frag} {n f : Str} {A : Addr} (h : PySem.W.nsIn K PySem.mainGlobals n = some (some (.ref A))) (na : NoAttr K A f) : ∀ C, PySem.W.nsIn K PySem.mainGlobals n = some (some (.ref C)) → NoAttr K C f := fun C h' => by
  rw [h] at h'; cases h'; exact na
def gAddI : G2 := gI (fun _ _ => true) fun i j => .int (i + j)
theorem ops_addI {K : PySem.W.Frag} : OpS K L2.rAdd gAddI := (ops_rI0 (g := fun i j => .int (i + j)) fun _ _ _ _ => .int _).imp fun x y H Q ⟨i, j, h1, h2, h⟩ => ⟨i, j, h1, h2, h⟩
theorem ops_subI {K : PySem.W.Frag} : OpS K L2.rSub gSub := (ops_rI0 (g := fun i j => .int (i - j)) fun _ _ _ _ => .int _).imp fun x y H Q ⟨i, j, h1, h2, h⟩ => ⟨i, j, h1, h2, h⟩
@[simp] theorem gAddI_ii {i j : Int} : gAddI (.lf (.int i)) (.lf (.int j)) = some (.int (i + j)) := rfl
section
variable {f g fa fb fc fe fo fi fk : En → Rs Vl} {ga gb : En → Rs Fl} {env e : En} {i j n N : Nat} {q q2 q3 : Bool} {fO h : En → Rs O} {F : List O → Rs O} {fr : En → Rs (List Arg)} {frt : En → Rs (List Arg × O)} {m nm x : Str} {os : List (Str × O)} {up : O → En}
@[simp] theorem fUnV_eq {k : Vl → Option Vl} : fUnV k fa env = (fa env).bind fun x e => match k x with
  | some z => .ok z e
  | none => .bad := rfl
@[simp] theorem gFld_eq : gFld j x (.pl (.ins nm os) up) = match os[j]? with
    | some (g, o) => if g = x then (match o with
      | .lf w => some (.lf w)
      | o => some (.pl o fun o' => up (.ins nm (os.set j (x, o'))))) else none
    | none => none := rfl
@[simp] theorem fPutF_eq : fPutF nm j x fe fo env = (fe env).bind fun y e => (fo e).bind fun o e1 => match o, y with
  | .pl (.ins m os) up, .lf w => match putO nm j x m os (.lf w) with
    | some os' => .ok .nx (up (.ins m os'))
    | none => .bad
  | _, _ => .bad := rfl
@[simp] theorem fPutFO_eq : fPutFO nm j x h fo env = (h env).bind fun o e => match fo e with
  | .ok (.pl (.ins m os) up) _ => match putO nm j x m os o with
    | some os' => .ok .nx (up (.ins m os'))
    | none => .bad
  | _ => .bad := rfl
@[simp] theorem fAugF_eq {k : G2} : fAugF j x k fo fe env = (fo env).bind fun o e => match o with
  | .pl (.ins m os) up => match os[j]? with
    | some (f', .lf w) => if f' = x ∧ os.length < 1000 then ((fe e).bind fun y _ => match k (.lf w) y with
      | some z => .ok .nx (up (.ins m (os.set j (x, .lf z))))
      | none => .bad) else .bad
    | _ => .bad
  | _ => .bad := rfl
@[simp] theorem fPop_eq : fPop fo env = (fo env).bind fun x e => match x with
  | .pl (.lst os) up => match os.getLast? with
    | some (.lf w) => .ok (.lf w) (up (.lst os.dropLast))
    | _ => .bad
  | _ => .bad := rfl
@[simp] theorem fPopD_eq : fPopD fo env = (fo env).bind fun x e => match x with
  | .pl (.lst os) up => match os.getLast? with
    | some _ => .ok .nx (up (.lst os.dropLast))
    | _ => .bad
  | _ => .bad := rfl
@[simp] theorem fAppP_eq : fAppP fo fe env = (fo env).bind fun x e => match x with
  | .pl (.lst os) up => if os.length < sizeLine then ((fe e).bind fun y _ => match y with
    | .lf w => .ok .nx (up (.lst (os ++ [.lf w])))
    | _ => .bad) else .bad
  | _ => .bad := rfl
@[simp] theorem fAppO_eq : fAppO i h env = match env[i]? with
  | some (some (.lst _)) => (h env).bind fun o e => (match e[i]? with
    | some (some (.lst os)) => if os.length < sizeLine then .ok .nx (e.set i (some (.lst (os ++ [o])))) else .bad
    | _ => .bad)
  | _ => .bad := rfl
@[simp] theorem fFrzP_eq : fFrzP fo env = (fo env).bind fun x e => match x with
  | .pl (.lst os) up => match O.ers os with
    | some ws => .ok (.lf (.list ws)) (up (.lf (.list ws)))
    | none => .bad
  | .lf w => .ok (.lf w) e
  | _ => .bad := rfl
@[simp] theorem fMeth_eq : fMeth nm i F fr env = match env[i]? with
  | some (some (.ins m _)) => if m = nm then (fr env).bind fun xs e => if (mvs (.mv i :: xs)).Nodup then match takeA e (.mv i :: xs) with
      | some os => match F os with
        | .ok r ps => (match putA (.mv i :: xs) ps e with
          | some e' => .ok r e'
          | none => .bad)
        | .ex c ps => (match putA (.mv i :: xs) ps e with
          | some e' => .ex c e'
          | none => .bad)
        | .bad => .bad
      | none => .bad else .bad else .bad
  | _ => .bad := rfl
@[simp] theorem backX_eq {xs : List Arg} {r : O} {ps : List (Option O)} : backX n xs e r ps = match putA xs ps e with
  | some e2 => .ok r (e2.take n)
  | none => .bad := rfl
@[simp] theorem exX_eq {xs : List Arg} {c : Str} {ps : List (Option O)} : exX n xs e c ps = match putA xs ps e with
  | some e2 => .ex c (e2.take n)
  | none => .bad := rfl
@[simp] theorem fMethX_eq : fMethX nm i F frt env = match env[i]? with
  | some (some (.ins m _)) => if m = nm then (frt env).bind fun xo e => if (mvs (.mv i :: xo.1)).Nodup then match takeA (e ++ [some xo.2]) (.mv i :: xo.1) with
      | some os => match F os with
        | .ok r ps => backX e.length (.mv i :: xo.1) (e ++ [some xo.2]) r ps
        | .ex c ps => exX e.length (.mv i :: xo.1) (e ++ [some xo.2]) c ps
        | .bad => .bad
      | none => .bad else .bad else .bad
  | _ => .bad := rfl
@[simp] theorem fCallX_eq : fCallX F frt env = (frt env).bind fun xo e => if (mvs xo.1).Nodup then match takeA (e ++ [some xo.2]) xo.1 with
  | some os => match F os with
    | .ok r ps => backX e.length xo.1 (e ++ [some xo.2]) r ps
    | .ex c ps => exX e.length xo.1 (e ++ [some xo.2]) c ps
    | .bad => .bad
  | none => .bad else .bad := rfl
@[simp] theorem fTmpM_eq : fTmpM nm F h env = (h env).bind fun o e => match o with
  | .ins m os => if m = nm then (match F [.ins m os] with
    | .ok r ps => backX e.length [.mv e.length] (e ++ [some (.ins m os)]) r ps
    | .ex c ps => exX e.length [.mv e.length] (e ++ [some (.ins m os)]) c ps
    | .bad => .bad) else .bad
  | _ => .bad := rfl
@[simp] theorem fMake_eq : fMake nm F fr env = (fr env).bind fun xs e => if (mvs (.mv e.length :: xs)).Nodup then match takeA (e ++ [some (.ins nm [])]) (.mv e.length :: xs) with
  | some os => match F os with
    | .ok (.lf .none) ps => (match putA (.mv e.length :: xs) ps (e ++ [some (.ins nm [])]) with
      | some e2 => (match e2[e.length]? with
        | some (some o) => .ok o (e2.take e.length)
        | _ => .bad)
      | none => .bad)
    | .ex c ps => exX e.length (.mv e.length :: xs) (e ++ [some (.ins nm [])]) c ps
    | _ => .bad
  | none => .bad else .bad := rfl
@[simp] theorem aT_eq : aT fO fr env = (fO env).bind fun o e => match fr e with
  | .ok xs e' => .ok (.mv e'.length :: xs, o) e'
  | _ => .bad := rfl
@[simp] theorem aVT_eq : aVT f frt env = (f env).bind fun x e => match x with
  | .lf w => (frt e).bind fun xo e' => .ok (.va w :: xo.1, xo.2) e'
  | .pl _ _ => .bad := rfl
@[simp] theorem aMT_eq : aMT i frt env = match env[i]? with
  | some (some (.lf w)) => (frt env).bind fun xo e' => .ok (.va w :: xo.1, xo.2) e'
  | some (some _) => (frt env).bind fun xo e' => .ok (.mv i :: xo.1, xo.2) e'
  | _ => .bad := rfl
@[simp] theorem fDput_eq : fDput fe fo fi env = (fe env).bind fun x e => (fo e).bind fun o e1 => (fi e1).bind fun i e2 => match o, i, x with
  | .pl (.dct os) up, .lf w, .lf z => match keyW w with
    | some k => if os.length < sizeLine then .ok .nx (up (.dct (dPut k (.lf z) os))) else .bad
    | none => .bad
  | .pl (.dcT os) up, .lf (.tuple ws), .lf z => match keysOf ws with
    | some k => if os.length < sizeLine then .ok .nx (up (.dcT (dPut k (.lf z) os))) else .bad
    | none => .bad
  | _, _, _ => .bad := rfl
@[simp] theorem gDget_d {kvs : List (Key × O)} {w : PyData} : gDget (.pl (.dct kvs) up) (.lf w) = match keyW w with
    | some k => (leafO (dFind k kvs)).map .lf
    | none => none := rfl
@[simp] theorem gDget_t {kvs : List (List Key × O)} {ws : List PyData} : gDget (.pl (.dcT kvs) up) (.lf (.tuple ws)) = match keysOf ws with
    | some k => (leafO (dFind k kvs)).map .lf
    | none => none := rfl
@[simp] theorem gDget_l {kvs : List (List Key × O)} {ws : List PyData} : gDget (.pl (.dcL kvs) up) (.lf (.tuple ws)) = match keysOf ws with
    | some k => (leafO (dFind k kvs)).map .lf
    | none => none := rfl
@[simp] theorem gDin_d {neg : Bool} {kvs : List (Key × O)} {w : PyData} : gDin neg (.lf w) (.pl (.dct kvs) up) = match keyW w with
  | some k => some (.bool (neg != (dFind k kvs).isSome))
  | none => none := rfl
@[simp] theorem gDin_t {neg : Bool} {kvs : List (List Key × O)} {ws : List PyData} : gDin neg (.lf (.tuple ws)) (.pl (.dcT kvs) up) = match keysOf ws with
    | some k => some (.bool (neg != (dFind k kvs).isSome))
    | none => none := rfl
@[simp] theorem leafO_lf {w : PyData} : leafO (some (.lf w)) = some w := rfl
@[simp] theorem leafO_n : leafO none = none := rfl
@[simp] theorem keyW_i {i : Int} : keyW (.int i) = some (.inl i) := rfl
@[simp] theorem keyW_s {i : Str} : keyW (.str i) = some (.inr i) := rfl
@[simp] theorem keysOf_n : keysOf [] = some [] := rfl
@[simp] theorem keysOf_c {w : PyData} {ws : List PyData} : keysOf (w :: ws) = match keyW w, keysOf ws with
    | some k, some ks => some (k :: ks)
    | _, _ => none := rfl
@[simp] theorem fODct_eq : fODct env = .ok (.dct []) env := rfl
@[simp] theorem fODcT_eq : fODcT env = .ok (.dcT []) env := rfl
@[simp] theorem gListT_eq {kvs : List (List Key × O)} : gListT [.pl (.dcT kvs) up] = some (.list (kvs.map fun p => .tuple (p.1.map unKey))) := rfl
@[simp] theorem fIns_eq : fIns i fk fe env = match env[i]? with
  | some (some (.lst _)) => (fk env).bind fun k e => (fe e).bind fun x e2 => (match k, x, e2[i]? with
    | .lf (.int j), .lf w, some (some (.lst os)) => if os.length < sizeLine ∧ 0 ≤ j ∧ j < 9223372036854775808 then (match lfs os with
      | some ws => .ok .nx (e2.set i (some (.lst ((ws.take j.toNat ++ [w] ++ ws.drop j.toNat).map .lf))))
      | none => .bad) else .bad
    | _, _, _ => .bad)
  | _ => .bad := rfl
@[simp] theorem pNil_eq : pNil env = .ok [] env := rfl
@[simp] theorem pCons_eq {fp : En → Rs (List PyData)} : pCons f fp env = match f env with
  | .ok (.lf w) e => (match fp e with
    | .ok ws e' => .ok (w :: ws) e'
    | _ => .bad)
  | _ => .bad := rfl
@[simp] theorem fODisp_eq {ks : List Key} {fp : En → Rs (List PyData)} : fODisp ks fp env = match fp env with
  | .ok ws e => .ok (.dct ((ks.zip ws).map fun p => (p.1, .lf p.2))) e
  | _ => .bad := rfl
@[simp] theorem fIxO_eq : fIxO h fi env = (h env).bind fun o e => match fi e with
  | .ok y e' => (match gDget (.pl o fun _ => []) y with
    | some (.lf w) => .ok (.lf w) e'
    | _ => .bad)
  | _ => .bad := rfl
end
end MV
set_option Elab.async false
set_option linter.all false
set_option maxRecDepth 100000
set_option maxHeartbeats 4000000
/-! Texts compared. -/
namespace MV
open PySem PySem.Spec PyProof.Rows L2
theorem Sh.str {x : Str} (h : PyData.strOk x = true) : Sh 0 (.str x) := ⟨by rw [PyData.canLay0]; exact h, by rw [PyData.depth]; exact Nat.le_refl _⟩
theorem shaped_str {x : Str} (h : PyData.strOk x = true) : SeqAt.shaped (.str x) = true := (Sh.str h).shaped (by decide)
@[simp] theorem eqv_ss (x y : Str) : PyData.eqv (.str x) (.str y) = (x == y) := by rw [PyData.eqv]
@[simp] theorem gEq_ss {x y : Str} (h1 : PyData.strOk x = true) (h2 : PyData.strOk y = true) : gEq (.lf (.str x)) (.lf (.str y)) = some (.bool (decide (x = y))) := by
  rw [gEq_of rfl rfl (shaped_str h1) (shaped_str h2), eqv_ss, Bool.beq_eq_decide_eq]
@[simp] theorem gNe_ss {x y : Str} (h1 : PyData.strOk x = true) (h2 : PyData.strOk y = true) : gNe (.lf (.str x)) (.lf (.str y)) = some (.bool (!decide (x = y))) := by
  rw [gNe_of rfl rfl (shaped_str h1) (shaped_str h2), eqv_ss, Bool.beq_eq_decide_eq]
@[simp] theorem gIsN_w {w : PyData} : gIsN (.lf w) (.lf .none) = some (.bool (isNone w)) := rfl
@[simp] theorem gNotN_w {w : PyData} : gNotN (.lf w) (.lf .none) = some (.bool (!isNone w)) := rfl
@[simp] theorem isNone_n : isNone .none = true := rfl
@[simp] theorem isNone_i {i : Int} : isNone (.int i) = false := rfl
@[simp] theorem isNone_s {i : Str} : isNone (.str i) = false := rfl
@[simp] theorem isNone_t {i : List PyData} : isNone (.tuple i) = false := rfl
@[simp] theorem isNone_l {i : List PyData} : isNone (.list i) = false := rfl
@[simp] theorem ns_x_y : (("x" : Str) = "y") = False := eq_false (by decide +kernel)
@[simp] theorem ns_x_z : (("x" : Str) = "z") = False := eq_false (by decide +kernel)
@[simp] theorem ns_x_hold : (("x" : Str) = "hold") = False := eq_false (by decide +kernel)
@[simp] theorem ns_x_fast : (("x" : Str) = "fast") = False := eq_false (by decide +kernel)
@[simp] theorem ns_x_slow : (("x" : Str) = "slow") = False := eq_false (by decide +kernel)
@[simp] theorem ns_y_x : (("y" : Str) = "x") = False := eq_false (by decide +kernel)
@[simp] theorem ns_y_z : (("y" : Str) = "z") = False := eq_false (by decide +kernel)
@[simp] theorem ns_y_hold : (("y" : Str) = "hold") = False := eq_false (by decide +kernel)
@[simp] theorem ns_y_fast : (("y" : Str) = "fast") = False := eq_false (by decide +kernel)
@[simp] theorem ns_y_slow : (("y" : Str) = "slow") = False := eq_false (by decide +kernel)
@[simp] theorem ns_z_x : (("z" : Str) = "x") = False := eq_false (by decide +kernel)
@[simp] theorem ns_z_y : (("z" : Str) = "y") = False := eq_false (by decide +kernel)
@[simp] theorem ns_z_hold : (("z" : Str) = "hold") = False := eq_false (by decide +kernel)
@[simp] theorem ns_z_fast : (("z" : Str) = "fast") = False := eq_false (by decide +kernel)
@[simp] theorem ns_z_slow : (("z" : Str) = "slow") = False := eq_false (by decide +kernel)
@[simp] theorem ns_hold_x : (("hold" : Str) = "x") = False := eq_false (by decide +kernel)
@[simp] theorem ns_hold_y : (("hold" : Str) = "y") = False := eq_false (by decide +kernel)
@[simp] theorem ns_hold_z : (("hold" : Str) = "z") = False := eq_false (by decide +kernel)
@[simp] theorem ns_hold_fast : (("hold" : Str) = "fast") = False := eq_false (by decide +kernel)
@[simp] theorem ns_hold_slow : (("hold" : Str) = "slow") = False := eq_false (by decide +kernel)
@[simp] theorem ns_fast_x : (("fast" : Str) = "x") = False := eq_false (by decide +kernel)
@[simp] theorem ns_fast_y : (("fast" : Str) = "y") = False := eq_false (by decide +kernel)
@[simp] theorem ns_fast_z : (("fast" : Str) = "z") = False := eq_false (by decide +kernel)
@[simp] theorem ns_fast_hold : (("fast" : Str) = "hold") = False := eq_false (by decide +kernel)
@[simp] theorem ns_fast_slow : (("fast" : Str) = "slow") = False := eq_false (by decide +kernel)
@[simp] theorem ns_slow_x : (("slow" : Str) = "x") = False := eq_false (by decide +kernel)
@[simp] theorem ns_slow_y : (("slow" : Str) = "y") = False := eq_false (by decide +kernel)
@[simp] theorem ns_slow_z : (("slow" : Str) = "z") = False := eq_false (by decide +kernel)
@[simp] theorem ns_slow_hold : (("slow" : Str) = "hold") = False := eq_false (by decide +kernel)
@[simp] theorem ns_slow_fast : (("slow" : Str) = "fast") = False := eq_false (by decide +kernel)
@[simp] theorem nb_shelf_wide : (("shelf" : Str) == "wide") = false := by decide +kernel
@[simp] theorem nb_shelf_deep : (("shelf" : Str) == "deep") = false := by decide +kernel
@[simp] theorem nb_shelf_cutter : (("shelf" : Str) == "cutter") = false := by decide +kernel
@[simp] theorem nb_shelf_x : (("shelf" : Str) == "x") = false := by decide +kernel
@[simp] theorem nb_shelf_y : (("shelf" : Str) == "y") = false := by decide +kernel
@[simp] theorem nb_shelf_z : (("shelf" : Str) == "z") = false := by decide +kernel
@[simp] theorem nb_wide_shelf : (("wide" : Str) == "shelf") = false := by decide +kernel
@[simp] theorem nb_wide_deep : (("wide" : Str) == "deep") = false := by decide +kernel
@[simp] theorem nb_wide_cutter : (("wide" : Str) == "cutter") = false := by decide +kernel
@[simp] theorem nb_wide_x : (("wide" : Str) == "x") = false := by decide +kernel
@[simp] theorem nb_wide_y : (("wide" : Str) == "y") = false := by decide +kernel
@[simp] theorem nb_wide_z : (("wide" : Str) == "z") = false := by decide +kernel
@[simp] theorem nb_deep_shelf : (("deep" : Str) == "shelf") = false := by decide +kernel
@[simp] theorem nb_deep_wide : (("deep" : Str) == "wide") = false := by decide +kernel
@[simp] theorem nb_deep_cutter : (("deep" : Str) == "cutter") = false := by decide +kernel
@[simp] theorem nb_deep_x : (("deep" : Str) == "x") = false := by decide +kernel
@[simp] theorem nb_deep_y : (("deep" : Str) == "y") = false := by decide +kernel
@[simp] theorem nb_deep_z : (("deep" : Str) == "z") = false := by decide +kernel
@[simp] theorem nb_cutter_shelf : (("cutter" : Str) == "shelf") = false := by decide +kernel
@[simp] theorem nb_cutter_wide : (("cutter" : Str) == "wide") = false := by decide +kernel
@[simp] theorem nb_cutter_deep : (("cutter" : Str) == "deep") = false := by decide +kernel
@[simp] theorem nb_cutter_x : (("cutter" : Str) == "x") = false := by decide +kernel
@[simp] theorem nb_cutter_y : (("cutter" : Str) == "y") = false := by decide +kernel
@[simp] theorem nb_cutter_z : (("cutter" : Str) == "z") = false := by decide +kernel
@[simp] theorem nb_x_shelf : (("x" : Str) == "shelf") = false := by decide +kernel
@[simp] theorem nb_x_wide : (("x" : Str) == "wide") = false := by decide +kernel
@[simp] theorem nb_x_deep : (("x" : Str) == "deep") = false := by decide +kernel
@[simp] theorem nb_x_cutter : (("x" : Str) == "cutter") = false := by decide +kernel
@[simp] theorem nb_x_y : (("x" : Str) == "y") = false := by decide +kernel
@[simp] theorem nb_x_z : (("x" : Str) == "z") = false := by decide +kernel
@[simp] theorem nb_y_shelf : (("y" : Str) == "shelf") = false := by decide +kernel
@[simp] theorem nb_y_wide : (("y" : Str) == "wide") = false := by decide +kernel
@[simp] theorem nb_y_deep : (("y" : Str) == "deep") = false := by decide +kernel
@[simp] theorem nb_y_cutter : (("y" : Str) == "cutter") = false := by decide +kernel
@[simp] theorem nb_y_x : (("y" : Str) == "x") = false := by decide +kernel
@[simp] theorem nb_y_z : (("y" : Str) == "z") = false := by decide +kernel
@[simp] theorem nb_z_shelf : (("z" : Str) == "shelf") = false := by decide +kernel
@[simp] theorem nb_z_wide : (("z" : Str) == "wide") = false := by decide +kernel
@[simp] theorem nb_z_deep : (("z" : Str) == "deep") = false := by decide +kernel
@[simp] theorem nb_z_cutter : (("z" : Str) == "cutter") = false := by decide +kernel
@[simp] theorem nb_z_x : (("z" : Str) == "x") = false := by decide +kernel
@[simp] theorem nb_z_y : (("z" : Str) == "y") = false := by decide +kernel
@[simp] theorem so_x : PyData.strOk "x" = true := by decide +kernel
@[simp] theorem so_y : PyData.strOk "y" = true := by decide +kernel
@[simp] theorem so_z : PyData.strOk "z" = true := by decide +kernel
@[simp] theorem so_hold : PyData.strOk "hold" = true := by decide +kernel
@[simp] theorem so_fast : PyData.strOk "fast" = true := by decide +kernel
@[simp] theorem so_slow : PyData.strOk "slow" = true := by decide +kernel
@[simp] theorem so_shelf : PyData.strOk "shelf" = true := by decide +kernel
@[simp] theorem so_low : PyData.strOk "low" = true := by decide +kernel
@[simp] theorem so_bare : PyData.strOk "bare" = true := by decide +kernel
@[simp] theorem so_out : PyData.strOk "out" = true := by decide +kernel
@[simp] theorem so_crash : PyData.strOk "crash" = true := by decide +kernel
@[simp] theorem so_bite : PyData.strOk "bite" = true := by decide +kernel
end MV
set_option linter.all false
set_option maxRecDepth 100000
set_option maxHeartbeats 4000000
namespace L2
open PySem PySem.Spec PyProof.Rows
/-! a slice with a step -/
def pickL {α : Type} (l : List α) (lo hi st : Option Int) : List α := (sliceRange (sliceBounds lo hi st l.length).1 (sliceBounds lo hi st l.length).2.1 (sliceBounds lo hi st l.length).2.2).filterMap fun i => l[i]?
theorem Vals.fmap {xs : List V} {us : List Value} (r : Vals xs us) : ∀ is : List Nat, Vals (is.filterMap fun i => xs[i]?) (is.filterMap fun i => us[i]?)
  | [] => .nil
  | i :: is => by
    cases h : xs[i]? with
    | none => rw [List.filterMap_cons_none h, List.filterMap_cons_none (Vals.none_of r h)]; exact Vals.fmap r is
    | some x =>
      obtain ⟨u, h1, h2⟩ := Vals.get r h
      rw [List.filterMap_cons_some h, List.filterMap_cons_some h1]
      exact .cons h2 (Vals.fmap r is)
theorem pickL_len {α : Type} (l : List α) (lo hi st : Option Int) : (pickL l lo hi st).length ≤ l.length := by
  unfold pickL
  refine Nat.le_trans (List.length_filterMap_le _ _) (sliceRange_length_le _ _ _ _ (fun hc => ?_) fun hc => ?_)
  · simp only [sliceBounds] at hc ⊢
    simp only [hc, if_true]
    constructor
    · cases lo with
      | none => simp
      | some i => dsimp only; omega
    · cases hi with
      | none => simp
      | some i => dsimp only; omega
  · simp only [sliceBounds] at hc ⊢
    simp only [hc, if_false]
    constructor
    · cases lo with
      | none => simp
      | some i => dsimp only; omega
    · cases hi with
      | none => simp
      | some i => dsimp only; omega
def tSlS (K : PySem.W.Frag) (te : TE) (tl th ts : TO) : TE := fun σ H Q => te σ H fun x H1 => tl σ H1 fun l H2 => th σ H2 fun u H3 => ts σ H3 fun st H4 => ∃ a xs, x = .ref a ∧ SqL K H4 a xs ∧ st ≠ some 0 ∧ ∀ p, H4 p = none → Q (.ref p) (upd H4 p (.lst (pickL xs l u st)))
section
variable {X : Cx}
theorem pe_sliceSt {e se : Expr} {lo hi : Option Expr} {te : TE} {tl th ts : TO} {p2 pos : Pos} (he : PE X e te) (hl : PO X lo tl) (hu : PO X hi th) (hs : PO X (some se) ts) : PE X (.Subscript e (.Slice lo hi (some se) p2) pos) (tSlS X.K te tl th ts) := by
  refine ⟨fun pins s σ H Q I h => ?_⟩
  refine Subscript_ (thn (he.run pins s σ H _ I h) fun v s1 ⟨x, H1, I1, r1, q1⟩ => ?_)
  refine wpAny_Slice (thn (hl.run pins s1 σ H1 _ I1 q1) fun vl s2 ⟨l, H2, I2, pl, q2⟩ => thn (hu.run pins s2 σ H2 _ I2 q2) fun vu s3 ⟨u, H3, I3, pu, q3⟩ => thn (hs.run pins s3 σ H3 _ I3 q3) fun vs s4 ⟨st, H4, I4, ps, q4⟩ => ?_)
  obtain ⟨a, xs, ex, hx, h0, q⟩ := q4
  subst ex
  cases r1
  have I5 : Inv X pins σ H4 { s4 with heap := s4.heap.push { cls := .type "slice", data := .fields #[vl, vu, vs] } } := I4.kept (t' := s4.toks) fun b ob q => Heap.get?_push_of_some _ q
  obtain ⟨its, r, ht, hz⟩ := I5.list hx
  have hlen := r.length
  show wpAny (model X.prog X.w) X.A (subscriptTail e (.Slice lo hi (some se) p2) (.ref a) (.ref s4.heap.objs.size)) (EP X pins σ Q) X.xe { s4 with heap := s4.heap.push { cls := .type "slice", data := .fields #[vl, vu, vs] } }
  refine tail_any (ops := [.ref a, .ref s4.heap.objs.size]) ht.isList.typeIs (PySem.slot_list_getitem.lookup) ?_ (by with_unfolding_all rfl)
  refine wpAny_getItem_list_slice ht.isList (Heap.IsSliceOf.new _ vl vu vs) pl pu ps h0 ?_ (by rw [List.size_toArray]; omega)
  refine ⟨.ref _, _, I5.laid (t' := s4.toks) (o := .lst (pickL xs l u st)) (fun b ob q => Heap.get?_push_of_some _ q) (Nat.le_refl _) ?_, rfl, q _ (I5.hok.fresh (Nat.le_refl _))⟩
  have hr : Vals (pickL xs l u st) (slicePick its.toArray l u st).toList := by
    unfold pickL slicePick
    rw [hlen, List.size_toArray]
    simpa using Vals.fmap r _
  exact ⟨Nat.le_trans (pickL_len xs l u st) hz, _, 0, hr, Heap.get?_push_size _ rfl⟩
end
end L2
namespace MV
open PySem PySem.Spec PyProof.Rows L2
variable {X : Cx} {W : WX} {q q1 q2 q3 q4 : Bool} {e : Expr} {pos : Pos} {f : En → Rs Vl}
def gSlS (x : Vl) (lo hi st : Option Int) : Option PyData := match x.items with
  | some ws => if st = some 0 then none else some (.list (pickL ws lo hi st))
  | none => none
def fSlS (q : Bool) (f : En → Rs Vl) (fl fh fs : En → Rs (Option Int)) : En → Rs Vl := fun env => (f env).bind fun x e => if q || x.isLf then (fl e).bind fun lo e1 => (fh e1).bind fun hi e2 => (fs e2).bind fun st e3 => (match gSlS x lo hi st with
  | some z => .ok (.lf z) e3
  | none => .bad) else .bad
theorem pick_rws {K : PySem.W.Frag} {ω : Om} {H : Hp} {vs : List V} {ws : List PyData} (h : RWs K ω H vs ws) (lo hi st : Option Int) : RWs K ω H (pickL vs lo hi st) (pickL ws lo hi st) := by
  unfold pickL
  rw [h.1]
  generalize sliceRange _ _ _ = is
  induction is with
  | nil => exact ⟨rfl, fun i v w e1 => by cases e1⟩
  | cons k is ih =>
    cases e1 : vs[k]? with
    | none =>
      have e2 : ws[k]? = none := by rw [List.getElem?_eq_none_iff] at e1 ⊢; rw [← h.1]; exact e1
      rw [List.filterMap_cons_none e1, List.filterMap_cons_none e2]; exact ih
    | some v =>
      have hk := (List.getElem?_eq_some_iff.mp e1).1
      obtain ⟨w, e2⟩ : ∃ w, ws[k]? = some w := ⟨_, List.getElem?_eq_getElem (by rw [← h.1]; exact hk)⟩
      rw [List.filterMap_cons_some e1, List.filterMap_cons_some e2]
      refine ⟨by rw [List.length_cons, List.length_cons, ih.1], fun i v' w' z1 z2 => ?_⟩
      cases i with
      | zero => cases z1; cases z2; exact h.2 _ _ _ e1 e2
      | succ i => exact ih.2 i v' w' z1 z2
theorem ve_slS {se : Expr} {lo hi : Option Expr} {p2 : Pos} {fl fh fs : En → Rs (Option Int)} (h : VE X W q1 e f) (hl : VO_ X W q2 lo fl) (hh : VO_ X W q3 hi fh) (hs : VO_ X W q4 (some se) fs) : VE X W (q1 && (q2 && (q3 && q4))) (.Subscript e (.Slice lo hi (some se) p2) pos) (fSlS (q2 && (q3 && q4)) f fl fh fs) := by
  obtain ⟨t, p, s⟩ := h.ex
  obtain ⟨tl, pl, sl⟩ := hl.ex
  obtain ⟨th, ph, sh⟩ := hh.ex
  obtain ⟨ts, ps, ss⟩ := hs.ex
  refine ⟨_, pe_sliceSt p pl ph ps, ⟨fun hq env x e z => ?_, fun B ω σ H env Q G z => ?_⟩⟩
  · obtain ⟨h1, h23⟩ := Bool.and_eq_true_iff.mp hq
    obtain ⟨h2, h34⟩ := Bool.and_eq_true_iff.mp h23
    obtain ⟨h3, h4⟩ := Bool.and_eq_true_iff.mp h34
    obtain ⟨a, e1, z1, z2⟩ := Rs.bind_st (env := env) z
    split at z2
    · obtain ⟨b, e2, z3, z4⟩ := Rs.bind_st (env := env) z2
      obtain ⟨c, e3, z5, z6⟩ := Rs.bind_st (env := env) z4
      obtain ⟨d, e4, z7, z8⟩ := Rs.bind_st (env := env) z6
      have r1 := s.st h1 _ _ _ z1
      have r2 := sl.st h2 _ _ _ z3
      have r3 := sh.st h3 _ _ _ z5
      have r4 := ss.st h4 _ _ _ z7
      split at z8 <;> cases z8
      rw [r4, r3, r2, r1]
    · cases z2
  · refine s.run B ω σ H env _ G ((EPost.bind z).imp fun x e ω1 H1 _ ev1 qu1 G1 h1 => fun v rv => ?_)
    split at h1
    · rename_i hq
      refine sl.run B ω1 σ H1 e _ G1 ((EPost.bind (q1 := q2) (q2 := q3 && q4) h1).imp fun y e' ω2 H2 _ ev2 qu2 G2 h2 => ?_)
      refine sh.run B ω2 σ H2 e' _ G2 ((EPost.bind (q1 := q3) (q2 := q4) h2).imp fun y3 e3 ω3 H3 _ ev3 qu3 G3 h3 => ?_)
      refine ss.run B ω3 σ H3 e3 _ G3 ((EPost.bind (q1 := q4) (q2 := true) (by rw [Bool.and_true]; exact h3)).imp fun y4 e4 ω4 H4 _ ev4 qu4 G4 h4 => ?_)
      split at h4
      · rename_i z hz
        have rv' : RV X.K ω4 σ H4 v x := ((rv.keep (q := q2 && (q3 && q4)) hq ev2 fun t => qu2 (Bool.and_eq_true_iff.mp t).1).keep hq ev3 fun t => qu3 (Bool.and_eq_true_iff.mp (Bool.and_eq_true_iff.mp t).2).1).keep hq ev4 fun t => qu4 (Bool.and_eq_true_iff.mp (Bool.and_eq_true_iff.mp t).2).2
        unfold gSlS at hz
        split at hz
        · rename_i ws hw
          split at hz
          · cases hz
          · rename_i h0
            cases hz
            obtain ⟨a, vs, rfl, s, rr⟩ := rv'.items hw
            exact ⟨a, vs, rfl, s, h0, fun p hp => h4 ω4 _ (Quiet.alloc hp).evo (fun _ => .alloc hp) (G4.alloc hp) _ (RW.newL G4 hp (pick_rws rr _ _ _))⟩
        · cases hz
      · exact h4.elim
    · exact h1.elim
/-! range downward -/
def rngD (lo : Int) (n : Nat) : List PyData := (List.range n).map fun k => .int (lo + (k : Nat) * (-1))
theorem items_rngD {K : PySem.W.Frag} {ω : Om} {H : Hp} {lo : Int} {n : Nat} : Items K ω H (Itc lo (-1) n) (rngD lo n) := fun i ω1 H1 ev wf => by
  refine ⟨fun h => (show n ≤ i by simpa [rngD] using h), fun w hw => ?_⟩
  unfold rngD at hw
  rw [List.getElem?_map] at hw
  by_cases hi : i < n
  · rw [List.getElem?_range hi] at hw
    cases hw
    exact ⟨hi, fun v H2 hx => ⟨.inl hx.1, by rw [hx.2]; exact .int _⟩⟩
  · rw [List.getElem?_eq_none (by simpa using hi)] at hw
    cases hw
def fRng3 (fs : En → Rs (List Vl)) : En → Rs (List PyData) := fun env => (fs env).bind fun xs e => match xs with
  | [.lf (.int i), .lf (.int j), .lf (.int c)] => if rOk i && rOk j && decide (c = -1) then .ok (rngD i (i - j).toNat) e else .bad
  | _ => .bad
theorem RVs.three {K : PySem.W.Frag} {ω : Om} {σ : L2.St} {H : Hp} {vs : List V} {a b c : Vl} (h : RVs K ω σ H vs [a, b, c]) : ∃ u v w, vs = [u, v, w] ∧ RV K ω σ H u a ∧ RV K ω σ H v b ∧ RV K ω σ H w c := by
  obtain ⟨v, us, rfl, r, t⟩ := h.cons_inv
  obtain ⟨u, w, rfl, r1, r2⟩ := t.two
  exact ⟨_, _, _, rfl, r, r1, r2⟩
theorem vi_rng3 {a b c tg : Expr} {p : Pos} {fs : En → Rs (List Vl)} (hg : Gl X "range") (hm : X.mg "range" = none) (ha : VA X W q [a, b, c] fs)
    (hs : starEach [a, b, c] X.env = (false, eval a X.env) :: starEach [b, c] X.env := by rfl) (hpl : (backTo pos (starEach [b, c] X.env)).any (·.1) = false := by rfl) :
    VI X W q tg (.Call (.Name "range" p) [a, b, c] [] pos) (fRng3 fs) := by
  obtain ⟨t, pp, s⟩ := ha.ex
  refine ⟨_, pi_range3 hg hm pp hs hpl, ⟨fun hq env x e z => ?_, fun B ω σ H env R G z => ?_⟩⟩
  · obtain ⟨a, e1, z1, z2⟩ := Rs.bind_st (env := env) z
    split at z2
    · split at z2 <;> cases z2
      exact s.st hq _ _ _ z1
    · cases z2
  · refine s.run B ω σ H env _ G ((EPost.bind (q1 := q) (q2 := true) (by rw [Bool.and_true]; exact z)).imp fun xs e ω1 H1 _ ev1 qu1 G1 h1 => fun vs rv => ?_)
    split at h1
    · rename_i i j c hfe
      split at h1
      · rename_i hj
        obtain ⟨u, v, w, rfl, r1, r2, r3⟩ := rv.three
        cases (show RW X.K ω1 H1 u (.int i) from r1)
        cases (show RW X.K ω1 H1 v (.int j) from r2)
        cases (show RW X.K ω1 H1 w (.int c) from r3)
        rw [Bool.and_eq_true, Bool.and_eq_true] at hj
        have hc := of_decide_eq_true hj.2
        subst hc
        exact ⟨i, j, -1, _, rfl, RgC.neg (rOk_le hj.1.1).1 (rOk_le hj.1.1).2 (rOk_le hj.1.2).1 (rOk_le hj.1.2).2, EPost.ok_here G1 h1 _ items_rngD⟩
      · exact h1.elim
    · exact h1.elim
@[simp] theorem fSlS_eq {env : En} {fl fh fs : En → Rs (Option Int)} : fSlS q f fl fh fs env = (f env).bind fun x e => if q || x.isLf then (fl e).bind fun lo e1 => (fh e1).bind fun hi e2 => (fs e2).bind fun st e3 => (match gSlS x lo hi st with
  | some z => .ok (.lf z) e3
  | none => .bad) else .bad := rfl
@[simp] theorem fRng3_eq {env : En} {fs : En → Rs (List Vl)} : fRng3 fs env = (fs env).bind fun xs e => match xs with
  | [.lf (.int i), .lf (.int j), .lf (.int c)] => if rOk i && rOk j && decide (c = -1) then .ok (rngD i (i - j).toNat) e else .bad
  | _ => .bad := rfl
theorem gSlS_l {ws : List PyData} {lo hi st : Option Int} (h : st ≠ some 0) : gSlS (.lf (.list ws)) lo hi st = some (.list (pickL ws lo hi st)) := by
  show (if st = some 0 then none else some (PyData.list (pickL ws lo hi st))) = _
  rw [if_neg h]
theorem pickL_map {α β : Type} (g : α → β) (l : List α) (lo hi st : Option Int) : pickL (l.map g) lo hi st = (pickL l lo hi st).map g := by
  unfold pickL
  rw [List.length_map]
  generalize sliceRange _ _ _ = is
  induction is with
  | nil => rfl
  | cons k is ih =>
    cases e : l[k]? with
    | none => rw [List.filterMap_cons_none e, List.filterMap_cons_none (by rw [List.getElem?_map, e]; rfl)]; exact ih
    | some v => rw [List.filterMap_cons_some e, List.filterMap_cons_some (by rw [List.getElem?_map, e]; rfl), List.map_cons, ih]
end MV
set_option linter.all false
set_option maxRecDepth 100000
set_option maxHeartbeats 4000000
namespace MV
open PySem PySem.Spec PyProof.Rows L2
/-! ### for v in x: x an own list of frozen things, that stands still meanwhile -/
def showR (i : Nat) (os : List O) : Rs Fl → Rs Fl
  | .ok fl e => .ok fl (e.set i (some (.lst os)))
  | .ex c e => .ex c (e.set i (some (.lst os)))
  | .bad => .bad
def fForO (i : Nat) (gt : PyData → En → Option En) (ga : En → Rs Fl) : En → Rs Fl := fun env => match env[i]? with
  | some (some (.lst os)) => match lfs os with
    | some ws => showR i os (vFor gt ga ws (env.set i none))
    | none => .bad
  | some (some (.lf (.list ws))) => vFor gt ga ws env
  | _ => .bad
/-- the things of the name i put away -/
def ωaway (i : Nat) (ω : Om) : Om := fun a => match ω a with
  | .mine (r :: q) => if r = i then .out else .mine (r :: q)
  | x => x
/-- and there again -/
def ωthere (i : Nat) (ω ω2 : Om) : Om := fun a => match ω a with
  | .mine (r :: q) => if r = i then .mine (r :: q) else ω2 a
  | _ => ω2 a
section
variable {K : PySem.W.Frag} {B B2 i : Nat} {ω ω2 : Om} {σ σ2 : L2.St} {H H2 : Hp} {env e2 : En} {os : List O} {ws : List PyData}
theorem aw_fr {a : Addr} (h : ω a = .fr) : ωaway i ω a = .fr := by unfold ωaway; rw [h]
theorem aw_out {a : Addr} (h : ω a = .out) : ωaway i ω a = .out := by unfold ωaway; rw [h]
theorem aw_i {a : Addr} {q : List Nat} (h : ω a = .mine (i :: q)) : ωaway i ω a = .out := by unfold ωaway; rw [h]; simp
theorem aw_n {a : Addr} {r : Nat} {q : List Nat} (h : ω a = .mine (r :: q)) (hr : r ≠ i) : ωaway i ω a = .mine (r :: q) := by unfold ωaway; rw [h]; simp [hr]
theorem th_i {a : Addr} {q : List Nat} (h : ω a = .mine (i :: q)) : ωthere i ω ω2 a = .mine (i :: q) := by unfold ωthere; rw [h]; simp
theorem th_n {a : Addr} (h : ∀ q, ω a ≠ .mine (i :: q)) : ωthere i ω ω2 a = ω2 a := by
  unfold ωthere
  cases e : ω a with
  | fr => rfl
  | out => rfl
  | mine p =>
    cases p with
    | nil => rfl
    | cons r q =>
      dsimp only
      split
      · rename_i hr; subst hr; exact absurd e (h q)
      · rfl
theorem Good.away (G : Good K B ω σ H env) : Good K B (ωaway i ω) σ H (env.set i none) := by
  refine ⟨fun t o y => ?_, fun a p z => ?_, fun a z => aw_fr (G.wf a z), by simpa using G.nB, by simpa using G.len⟩
  · by_cases ht : t = i
    · subst ht
      rw [List.getElem?_set] at y
      split at y
      · split at y <;> cases y
      · rename_i hne; exact absurd rfl hne
    · rw [List.getElem?_set_ne (Ne.symm ht)] at y
      obtain ⟨v, h1, h2⟩ := G.rel t o y
      exact ⟨v, h1, h2.tr [t] (fun a x q z e => ⟨aw_n z ht, e⟩) fun a x e z => ⟨aw_fr z, e⟩⟩
  · unfold ωaway at z
    split at z
    · split at z
      · cases z
      · rename_i r q hz _; cases z; exact G.root a _ hz
    · exact G.root a p z
theorem there (G : Good K B ω σ H env) (hi : env[i]? = some (some (.lst os))) (hw : lfs os = some ws) (ev : Evo (ωaway i ω) H ω2 H2) (hs : σ2[i]? = σ[i]?) (hB : B ≤ B2) (G2 : Good K B2 ω2 σ2 H2 e2) :
    Evo ω H (ωthere i ω ω2) H2 ∧ Good K B2 (ωthere i ω ω2) σ2 H2 (e2.set i (some (.lst os))) ∧ ∀ r p v o, r ≠ i → RO K ω2 H2 (r :: p) v o → RO K (ωthere i ω ω2) H2 (r :: p) v o := by
  have sep : ∀ a q, ω a = .mine (i :: q) → ω2 a = .out ∧ ∃ x, H a = some x ∧ H2 a = some x := fun a q z => by
    cases e : H a with
    | none => have := G.wf a (.of e); rw [z] at this; cases this
    | some x => have := ev.out a x e (aw_i z); exact ⟨this.1, x, rfl, this.2⟩
  have keepO : ∀ a, ω2 a ≠ .out → ωthere i ω ω2 a = ω2 a := fun a h => th_n fun q z => h (sep a q z).1
  have evF : EvoF ω H (ωthere i ω ω2) H2 := fun a x e z => by
    have := ev.fr a x e (aw_fr z)
    exact ⟨by rw [keepO a (by rw [this.1]; exact fun t => nomatch t), this.1], this.2⟩
  refine ⟨⟨fun a x e z => evF a x e z, fun a x e z => ?_, fun a z => ?_, ev.frz⟩, ⟨fun t o y => ?_, fun a p z => ?_, fun a z => ?_, by simpa using G2.nB, by simpa using G2.len⟩, fun r p v o hr h => ?_⟩
  · have := ev.out a x e (aw_out z)
    exact ⟨by rw [th_n (fun q h => by rw [z] at h; cases h), this.1], this.2⟩
  · by_cases hm : ∃ q, ω a = .mine (i :: q)
    · obtain ⟨q, hq⟩ := hm; rw [th_i hq] at z; cases z
    · have hm' : ∀ q, ω a ≠ .mine (i :: q) := fun q h => hm ⟨q, h⟩
      rw [th_n hm'] at z
      have := ev.back a z
      unfold ωaway at this
      split at this
      · rename_i r q hz
        split at this
        · rename_i hr; subst hr; exact absurd hz (hm' q)
        · cases this
      · exact this
  · by_cases ht : t = i
    · subst ht
      have y' : some (O.lst os) = some o := by
        rw [List.getElem?_set] at y
        split at y
        · split at y
          · simpa using y
          · cases y
        · rename_i hne; exact absurd rfl hne
      cases y'
      obtain ⟨v, h1, h2⟩ := G.rel t _ hi
      refine ⟨v, by rw [hs]; exact h1, ?_⟩
      cases h2 with
      | @lst _ L vs _ m1 m2 l g =>
        obtain ⟨_, x, hx1, hx2⟩ := sep L [] m1
        rw [m2] at hx1; cases hx1
        refine .lst (th_i m1) hx2 l fun k v o y1 y2 => ?_
        have ho := lfs_get hw
        have : ∃ w, o = .lf w := by rw [ho, List.getElem?_map] at y2; cases e : ws[k]? with
          | none => rw [e] at y2; cases y2
          | some w => rw [e] at y2; cases y2; exact ⟨w, rfl⟩
        obtain ⟨w, rfl⟩ := this
        cases g k v _ y1 y2 with
        | lf r => exact .lf (r.evoF evF)
    · rw [List.getElem?_set_ne (Ne.symm ht)] at y
      obtain ⟨v, h1, h2⟩ := G2.rel t o y
      exact ⟨v, h1, h2.tr [t] (fun a x q z e => ⟨by rw [keepO a (by rw [z]; exact fun t => nomatch t), z], e⟩) fun a x e z => ⟨by rw [keepO a (by rw [z]; exact fun t => nomatch t), z], e⟩⟩
  · by_cases hm : ∃ q, ω a = .mine (i :: q)
    · obtain ⟨q, hq⟩ := hm
      rw [th_i hq] at z
      cases z
      obtain ⟨r, q', e, hr⟩ := G.root a _ hq
      cases e
      exact ⟨_, _, rfl, Nat.lt_of_lt_of_le hr hB⟩
    · rw [th_n fun q h => hm ⟨q, h⟩] at z
      exact G2.root a p z
  · by_cases hm : ∃ q, ω a = .mine (i :: q)
    · obtain ⟨q, hq⟩ := hm
      obtain ⟨_, x, hx1, hx2⟩ := sep a q hq
      rw [hx2] at z
      have := G.wf a (by rw [hx1]; exact z)
      rw [hq] at this; cases this
    · rw [th_n fun q h => hm ⟨q, h⟩]; exact G2.wf a z
  · exact h.tr (r :: p) (fun a x q z e => ⟨by rw [keepO a (by rw [z]; exact fun t => nomatch t), z], e⟩) fun a x e z => ⟨by rw [keepO a (by rw [z]; exact fun t => nomatch t), z], e⟩
end
section
variable {X : Cx} {W : WX} {kp : Nat → Bool} {sts : List Stmt} {pos : Pos} {ga : En → Rs Fl} {tg : Expr} {gt : PyData → En → Option En}
theorem SPost.away {K : PySem.W.Frag} {mg : Str → Option Value} {B i : Nat} {ω : Om} {σ : L2.St} {H : Hp} {D : Ends} {env : En} {os : List O} {ws : List PyData} {r : Rs Fl} (G : Good K B ω σ H env) (hi : env[i]? = some (some (.lst os))) (hw : lfs os = some ws) (hk : kp i = true)
    (h : SPost K mg W kp B ω σ H D (showR i os r)) : SPost K mg W kp B (ωaway i ω) σ H D r := by
  have hiB : i < B := by
    have := (List.getElem?_eq_some_iff.mp hi).1
    have := G.nB
    omega
  have hik : ∀ {σ' : L2.St}, Keep kp σ σ' → σ'[i]? = σ[i]? := fun k => k i hk
  cases r with
  | bad => exact h
  | ok fl e =>
    cases fl with
    | nx => exact fun ω' σ' H' ev ke G2 => let ⟨a, b, c⟩ := there G hi hw ev (hik ke) (Nat.le_refl _) G2; h _ σ' H' a ke b
    | bk => exact fun ω' σ' H' ev ke G2 => let ⟨a, b, c⟩ := there G hi hw ev (hik ke) (Nat.le_refl _) G2; h _ σ' H' a ke b
    | ct => exact fun ω' σ' H' ev ke G2 => let ⟨a, b, c⟩ := there G hi hw ev (hik ke) (Nat.le_refl _) G2; h _ σ' H' a ke b
    | ret o => exact fun ω' σ' H' v ev ke G2 ro => let ⟨a, b, c⟩ := there G hi hw ev (hik ke) (Nat.le_succ _) G2; h _ σ' H' v a ke b (c B [] v o (by omega) ro)
  | ex c e => exact fun ω' σ' H' C hC ev ke G2 => let ⟨a, b, c⟩ := there G hi hw ev (hik ke) (Nat.le_refl _) G2; h _ σ' H' C hC a ke b
/-- the loop over a list that stands still, told by its address -/
theorem for_core {tb : TS} {g : TG} {L : Addr} {vs : List V} {ws : List PyData} {B : Nat} {ω : Om} {σ : L2.St} {H : Hp} {env : En} {D : Ends} (hg : SG X.K kp g gt) (hb : SS X.K X.mg W kp tb ga) (G : Good X.K B ω σ H env)
    (rr : RWs X.K ω H vs ws) (hL : ∀ ω' H', Evo ω H ω' H' → SqL X.K H' L vs) (z : SPost X.K X.mg W kp B ω σ H D (vFor gt ga ws env)) :
    ∃ Wn : Nat → Nat → L2.St → Hp → Prop, (∃ m, Wn 0 m σ H) ∧ ∀ i m σ H, Wn i m σ H →
      ((Itl X.K L).stop i H ∧ D.nx σ H) ∨ ((Itl X.K L).go i H ∧ ∃ N : L2.St → Hp → Prop, (∀ σ' H', N σ' H' → ∃ m', m' < m ∧ Wn (i + 1) m' σ' H') ∧ ∀ x H', (Itl X.K L).yld i H x H' → g x σ H' fun σ2 H2 => tb { D with nx := N, ct := N, bk := D.nx } σ2 H2) := by
  refine ⟨fun k m σ' H' => ∃ ω' env', Evo ω H ω' H' ∧ Keep kp σ σ' ∧ Good X.K B ω' σ' H' env' ∧ m = ws.length - k ∧ k ≤ ws.length ∧ SPost X.K X.mg W kp B ω' σ' H' D (vFor gt ga (ws.drop k) env'),
    ⟨ws.length, ω, env, .refl _ _, .refl _ _, G, by simp, Nat.zero_le _, by simpa using z⟩, ?_⟩
  rintro k m σ' H' ⟨ω', env', ev', ke', G', rfl, hk', sp⟩
  have sq := hL ω' H' ev'
  by_cases hlt : k < ws.length
  · right
    have hv : vs[k]? = some (vs[k]'(by rw [rr.1]; exact hlt)) := List.getElem?_eq_getElem _
    refine ⟨⟨vs, _, sq, hv⟩, fun σ2 H2 => ∃ ω' env', Evo ω H ω' H2 ∧ Keep kp σ σ2 ∧ Good X.K B ω' σ2 H2 env' ∧ SPost X.K X.mg W kp B ω' σ2 H2 D (vFor gt ga (ws.drop (k + 1)) env'), fun σ2 H2 ⟨ω2, e2, a1, a2, a3, a4⟩ => ⟨ws.length - (k + 1), by omega, ω2, e2, a1, a2, a3, rfl, hlt, a4⟩, fun x H2 hx => ?_⟩
    have hw1 := hx.2 vs sq
    have hw2 := hx.1
    subst hw2
    have rw_ : RW X.K ω' H2 x ws[k] := (rr.2 k x ws[k] hw1 (by simp [hlt])).evo ev'
    refine hg.run B ω' σ' H2 env' x ws[k] _ G' rw_ ?_
    rw [List.drop_eq_getElem_cons hlt] at sp
    unfold vFor at sp
    cases zz : gt ws[k] env' with
    | none => rw [zz] at sp; exact sp
    | some e1 =>
      rw [zz] at sp
      intro σ3 k3 l3 G3
      have sp := SPost.evo (.refl _ _) k3 sp
      refine hb B ω' σ3 H2 e1 _ G3 (SPost.turn (k := fun e' => vFor gt ga (ws.drop (k + 1)) e') sp fun e4 ω4 σ4 H4 ev4 k4 G4 sp4 => ?_)
      exact ⟨ω4, e4, ev'.trans ev4, (ke'.trans k3).trans k4, G4, sp4⟩
  · left
    have : k = ws.length := by omega
    subst this
    refine ⟨⟨vs, sq, by rw [rr.1]; exact Nat.le_refl _⟩, ?_⟩
    simp only [List.drop_length] at sp
    exact sp.here_nx G'
theorem vs_forO {i : Nat} {x : Str} {p1 : Pos} (hp : PassesOwn (model X.prog X.w) X.A X.env X.xe) (hc : X.calm = true) (hx : X.N[i]? = some x) (hg : VG X kp tg gt) (hb : VSs X W kp sts ga) (hk : kp i = true := by rfl)
    (hv : Vis X.env.scope x := by first | exact Or.inl rfl | exact Or.inr (Or.inl rfl) | exact Or.inr (Or.inr rfl)) (hd : (x == ("__debug__" : Str)) = false := by decide) (hcd : (x == ("__classdict__" : Str)) = false := by decide)
    (hs : ∀ z, foldedSetIterable (.Name x p1) X.env z = pure z := by intro _; rfl) : VS X W kp (.For tg (.Name x p1) sts [] pos) (fForO i gt ga) := by
  obtain ⟨tb, pb, sb⟩ := hb.ex
  obtain ⟨t, pt, st⟩ := hg.ex
  refine ⟨_, ps_for hp hc (pi_list (pe_var hx hv hd hcd)) pt pb hs, fun B ω σ H env D G z => ?_⟩
  unfold fForO at z
  split at z
  · rename_i os hi
    split at z
    case h_2 => exact z.elim
    rename_i ws hw
    obtain ⟨v0, k1, k2⟩ := G.rel i _ hi
    cases k2 with
    | @lst _ L vs _ m1 m2 l g =>
      have rr : RWs X.K (ωaway i ω) H vs ws := by
        have ho := lfs_get hw
        refine ⟨by rw [l, ho, List.length_map], fun k v w y1 y2 => ?_⟩
        have y3 : os[k]? = some (.lf w) := by rw [ho, List.getElem?_map, y2]; rfl
        cases g k v _ y1 y3 with
        | lf r => exact r.evoF fun a x e z => ⟨aw_fr z, e⟩
      refine ⟨_, k1, L, rfl, ⟨vs, .inl (.inl m2)⟩, for_core st sb G.away rr (fun ω' H' ev => .inl (.inl (ev.out L _ m2 (aw_i m1)).2)) (SPost.away G hi hw hk z)⟩
  · rename_i ws hi
    obtain ⟨v0, k1, k2⟩ := G.rel i _ hi
    cases k2 with
    | lf r =>
      cases r with
      | @lst L vs _ f l g =>
        exact ⟨_, k1, L, rfl, ⟨vs, f.sq⟩, for_core st sb G ⟨l, g⟩ (fun ω' H' ev => (f.evo ev).sq) z⟩
  · exact z.elim
end
@[simp] theorem showR_ok {i : Nat} {os : List O} {fl : Fl} {e : En} : showR i os (.ok fl e) = .ok fl (e.set i (some (.lst os))) := rfl
@[simp] theorem fForO_eq {i : Nat} {gt : PyData → En → Option En} {ga : En → Rs Fl} {env : En} : fForO i gt ga env = match env[i]? with
  | some (some (.lst os)) => match lfs os with
    | some ws => showR i os (vFor gt ga ws (env.set i none))
    | none => .bad
  | some (some (.lf (.list ws))) => vFor gt ga ws env
  | _ => .bad := rfl
theorem fForO_own {i : Nat} {gt : PyData → En → Option En} {ga : En → Rs Fl} {env : En} {os : List O} {ws : List PyData} (h : env[i]? = some (some (.lst os))) (hw : lfs os = some ws) : fForO i gt ga env = showR i os (vFor gt ga ws (env.set i none)) := by
  unfold fForO; rw [h]; dsimp only; rw [hw]
theorem fForO_lf {i : Nat} {gt : PyData → En → Option En} {ga : En → Rs Fl} {env : En} {ws : List PyData} (h : env[i]? = some (some (.lf (.list ws)))) : fForO i gt ga env = vFor gt ga ws env := by
  unfold fForO; rw [h]
end MV
set_option linter.all false
set_option maxRecDepth 100000
set_option maxHeartbeats 4000000
namespace MV
open PySem PySem.Spec PyProof.Rows L2
/-! ### for k in d: d an own dict with tuple keys, locked meanwhile -/
def unlR (i : Nat) : Rs Fl → Rs Fl
  | .ok fl e => match e[i]? with
    | some (some (.dcL os)) => .ok fl (e.set i (some (.dcT os)))
    | _ => .bad
  | _ => .bad
def fForD (i : Nat) (gt : PyData → En → Option En) (ga : En → Rs Fl) : En → Rs Fl := fun env => match env[i]? with
  | some (some (.dcT os)) => unlR i (vFor gt ga (os.map fun p => .tuple (p.1.map unKey)) (env.set i (some (.dcL os))))
  | _ => .bad
section
variable {K : PySem.W.Frag} {B B2 i : Nat} {ω ω2 : Om} {σ σ2 : L2.St} {H H2 : Hp} {env e2 : En} {os os' : List (List Key × O)} {d : Addr} {od : Obj} {vs : List (List Key × V)}
theorem Good.lockD (G : Good K B ω σ H env) (hi : env[i]? = some (some (.dcT os))) (h1 : ω d = .mine [i]) (h2 : H d = some (.dT vs)) (hσ : σ[i]? = some (some (.ref d))) : Good K B ω σ (upd H d (.frz od (.dT vs))) (env.set i (some (.dcL os))) := by
  have hil := (List.getElem?_eq_some_iff.mp hi).1
  have hfr : ∀ a x, H a = some x → ω a = .fr → ω a = .fr ∧ upd H d (.frz od (.dT vs)) a = some x := fun a x e z => ⟨z, by rw [upd_ne (fun t => by rw [t, h1] at z; cases z)]; exact e⟩
  refine ⟨fun t o y => ?_, G.root, fun a z => ?_, by simpa using G.nB, by simpa using G.len⟩
  · by_cases ht : t = i
    · subst ht
      rw [List.getElem?_set_self hil] at y
      cases y
      obtain ⟨v, k1, k2⟩ := G.rel t _ hi
      rw [hσ] at k1
      cases k1
      refine ⟨_, hσ, ?_⟩
      cases k2 with
      | @dcT _ _ vs' _ e1 e2 l kk g =>
        rw [h2] at e2
        cases e2
        refine .dcL h1 upd_same l kk fun j k v k' o z1 z2 => (g j k v k' o z1 z2).tr _ (fun a x q z e => ⟨z, ?_⟩) hfr
        rw [upd_ne (fun t => by
          rw [t, h1] at z
          have := congrArg (fun w => match w with | Ow.mine l => l.length | _ => 0) z
          simp at this)]
        exact e
    · rw [List.getElem?_set_ne (Ne.symm ht)] at y
      obtain ⟨v, k1, k2⟩ := G.rel t o y
      refine ⟨v, k1, k2.tr [t] (fun a x q z e => ⟨z, ?_⟩) hfr⟩
      rw [upd_ne (fun q' => by rw [q', h1] at z; simp at z; exact ht z.1.symm)]
      exact e
  · by_cases ha : a = d
    · subst ha; rw [upd_same] at z; exact z.elim
    · rw [upd_ne ha] at z; exact G.wf a z
theorem Good.unlD (G : Good K B ω σ H env) (hi : env[i]? = some (some (.dcL os))) (h2 : H d = some (.frz od (.dT vs))) (hσ : σ[i]? = some (some (.ref d))) : ω d = .mine [i] ∧ Good K B ω σ (upd H d (.dT vs)) (env.set i (some (.dcT os))) := by
  have hil := (List.getElem?_eq_some_iff.mp hi).1
  obtain ⟨v, k1, k2⟩ := G.rel i _ hi
  rw [hσ] at k1
  cases k1
  cases k2 with
  | @dcL _ _ od' vs' _ h1 e2 l kk g =>
    rw [h2] at e2
    cases e2
    have hfr : ∀ a x, H a = some x → ω a = .fr → ω a = .fr ∧ upd H d (.dT vs) a = some x := fun a x e z => ⟨z, by rw [upd_ne (fun t => by rw [t, h1] at z; cases z)]; exact e⟩
    refine ⟨h1, fun t o y => ?_, G.root, fun a z => ?_, by simpa using G.nB, by simpa using G.len⟩
    · by_cases ht : t = i
      · subst ht
        rw [List.getElem?_set_self hil] at y
        cases y
        refine ⟨_, hσ, .dcT h1 upd_same l kk fun j k v k' o z1 z2 => (g j k v k' o z1 z2).tr _ (fun a x q z e => ⟨z, ?_⟩) hfr⟩
        rw [upd_ne (fun t => by
          rw [t, h1] at z
          have := congrArg (fun w => match w with | Ow.mine l => l.length | _ => 0) z
          simp at this)]
        exact e
      · rw [List.getElem?_set_ne (Ne.symm ht)] at y
        obtain ⟨v, k1, k2⟩ := G.rel t o y
        refine ⟨v, k1, k2.tr [t] (fun a x q z e => ⟨z, ?_⟩) hfr⟩
        rw [upd_ne (fun q' => by rw [q', h1] at z; simp at z; exact ht z.1.symm)]
        exact e
    · by_cases ha : a = d
      · subst ha; rw [upd_same] at z; exact z.elim
      · rw [upd_ne ha] at z; exact G.wf a z
/-- the key, as it comes -/
theorem key_rw (G : Good K B ω σ H env) {q : Addr} {k : List Key} (h : H q = some (.tup (k.map kV))) : RW K ω H (.ref q) (.tuple (k.map unKey)) := by
  refine .tup (vs := k.map kV) ⟨h, G.wf q (by rw [h]; trivial)⟩ (by simp) fun j v w h3 h4 => ?_
  rw [List.getElem?_map] at h3 h4
  cases hj : k[j]? with
  | none => rw [hj] at h3; cases h3
  | some k => rw [hj] at h3 h4; cases h3; cases h4; exact RW.unkey k
end
section
variable {X : Cx} {W : WX} {kp : Nat → Bool} {sts : List Stmt} {pos : Pos} {ga : En → Rs Fl} {tg : Expr} {gt : PyData → En → Option En}
theorem evo_lock {ω ω' : Om} {H H' : Hp} {d : Addr} {od : Obj} {vs : List (List Key × V)} {i : Nat} (h1 : ω d = .mine [i]) (h2 : H d = some (.dT vs)) (ev : Evo ω (upd H d (.frz od (.dT vs))) ω' H') : Evo ω H ω' (upd H' d (.dT vs)) := by
  have hne : ∀ a, ω a = .fr ∨ ω a = .out → a ≠ d := fun a z t => by rw [t, h1] at z; rcases z with z | z <;> cases z
  refine ⟨fun a o e z => ?_, fun a o e z => ?_, ev.back, fun a o u e => ?_⟩
  · have n := hne a (.inl z)
    obtain ⟨k1, k2⟩ := ev.fr a o (by rw [upd_ne n]; exact e) z
    exact ⟨k1, by rw [upd_ne n]; exact k2⟩
  · have n := hne a (.inr z)
    obtain ⟨k1, k2⟩ := ev.out a o (by rw [upd_ne n]; exact e) z
    exact ⟨k1, by rw [upd_ne n]; exact k2⟩
  · have n : a ≠ d := fun t => by rw [t, h2] at e; cases e
    rw [upd_ne n]
    exact ev.frz a o u (by rw [upd_ne n]; exact e)
theorem vs_forD {i : Nat} {x : Str} {p1 : Pos} (hp : PassesOwn (model X.prog X.w) X.A X.env X.xe) (hc : X.calm = true) (hx : X.N[i]? = some x) (hg : VG X (fun t => kp t || t == i) tg gt) (hb : VSs X W (fun t => kp t || t == i) sts ga)
    (hv : Vis X.env.scope x := by first | exact Or.inl rfl | exact Or.inr (Or.inl rfl) | exact Or.inr (Or.inr rfl)) (hd : (x == ("__debug__" : Str)) = false := by decide) (hcd : (x == ("__classdict__" : Str)) = false := by decide)
    (hs : ∀ z, foldedSetIterable (.Name x p1) X.env z = pure z := by intro _; rfl) : VS X W kp (.For tg (.Name x p1) sts [] pos) (fForD i gt ga) := by
  obtain ⟨tb, pb, sb⟩ := hb.ex
  obtain ⟨t, pt, st⟩ := hg.ex
  refine ⟨_, ps_lock (ps_for hp hc (pi_keys (pe_var hx hv hd hcd)) pt pb hs), fun B ω σ H env D G z => ?_⟩
  unfold fForD at z
  split at z
  case h_2 => exact z.elim
  rename_i os hi
  obtain ⟨v0, k1, k2⟩ := G.rel i _ hi
  cases k2 with
  | @dcT _ d vs _ e1 e2 l kk g =>
    refine ⟨d, .dT vs, e2, trivial, fun od => ?_⟩
    have GL := G.lockD (od := od) hi e1 e2 k1
    have keepK : ∀ {σ1 σ2 : L2.St}, Keep (fun t => kp t || t == i) σ1 σ2 → Keep kp σ1 σ2 := fun h t ht => h t (by simp [ht])
    have keepI : ∀ {σ1 σ2 : L2.St}, Keep (fun t => kp t || t == i) σ1 σ2 → σ2[i]? = σ1[i]? := fun h => h i (by simp)
    have hds : upd H d (.frz od (.dT vs)) d = some (.frz od (.dT vs)) := upd_same
    -- the ends, unlocked
    have conv : ∀ {D2 : Ends} {r : Rs Fl}, SPost X.K X.mg W kp B ω σ H D2 (unlR i r) → SPost X.K X.mg W (fun t => kp t || t == i) B ω σ (upd H d (.frz od (.dT vs))) ⟨fun σ' H' => H' d = some (.frz od (.dT vs)) ∧ D2.nx σ' (upd H' d (.dT vs)), fun v H' => H' d = some (.frz od (.dT vs)) ∧ D2.rt v (upd H' d (.dT vs)), fun σ' H' => H' d = some (.frz od (.dT vs)) ∧ D2.bk σ' (upd H' d (.dT vs)), fun σ' H' => H' d = some (.frz od (.dT vs)) ∧ D2.ct σ' (upd H' d (.dT vs))⟩ r := fun {D2 r} h => by
      cases r with
      | bad => exact h
      | ex c e => exact h.elim
      | ok fl e =>
        unfold unlR at h
        dsimp only at h
        split at h
        case h_2 => exact h.elim
        rename_i os' he
        have hiB : i < B := by
          have := (List.getElem?_eq_some_iff.mp hi).1
          have := G.nB
          omega
        cases fl with
        | nx =>
          intro ω' σ' H' ev ke G2
          have hf := ev.frz d od _ hds
          obtain ⟨m1, G3⟩ := G2.unlD he hf ((keepI ke).trans k1)
          exact ⟨hf, h ω' σ' _ (evo_lock e1 e2 ev) (keepK ke) G3⟩
        | bk =>
          intro ω' σ' H' ev ke G2
          have hf := ev.frz d od _ hds
          obtain ⟨m1, G3⟩ := G2.unlD he hf ((keepI ke).trans k1)
          exact ⟨hf, h ω' σ' _ (evo_lock e1 e2 ev) (keepK ke) G3⟩
        | ct =>
          intro ω' σ' H' ev ke G2
          have hf := ev.frz d od _ hds
          obtain ⟨m1, G3⟩ := G2.unlD he hf ((keepI ke).trans k1)
          exact ⟨hf, h ω' σ' _ (evo_lock e1 e2 ev) (keepK ke) G3⟩
        | ret o =>
          intro ω' σ' H' v ev ke G2 ro
          have hf := ev.frz d od _ hds
          obtain ⟨m1, G3⟩ := G2.unlD he hf ((keepI ke).trans k1)
          refine ⟨hf, h ω' σ' _ v (evo_lock e1 e2 ev) (keepK ke) G3 (ro.tr [B] (fun a x q z e => ⟨z, ?_⟩) fun a x e z => ⟨z, ?_⟩)⟩
          · rw [upd_ne (fun t => by rw [t, m1] at z; simp at z; omega)]; exact e
          · rw [upd_ne (fun t => by rw [t, m1] at z; cases z)]; exact e
    have z := conv z
    refine ⟨_, k1, d, od, rfl, .inr ⟨vs, upd_same, ?_⟩⟩
    generalize upd H d (.frz od (.dT vs)) = H0 at GL hds z ⊢
    refine ⟨fun k m σ' H' => ∃ ω' env', Evo ω H0 ω' H' ∧ Keep (fun t => kp t || t == i) σ σ' ∧ Good X.K B ω' σ' H' env' ∧ m = os.length - k ∧ k ≤ os.length ∧ SPost X.K X.mg W (fun t => kp t || t == i) B ω' σ' H' _ (vFor gt ga ((os.map fun p => .tuple (p.1.map unKey)).drop k) env'),
      ⟨os.length, ω, _, .refl _ _, .refl _ _, GL, by simp, Nat.zero_le _, by simpa using z⟩, ?_⟩
    rintro k m σ' H' ⟨ω', env', ev', ke', G', rfl, hk', sp⟩
    have hf := ev'.frz d od _ hds
    by_cases hlt : k < os.length
    · right
      have hkv : k < vs.length := by rw [l]; exact hlt
      have hdl : k < (os.map fun p : List Key × O => PyData.tuple (p.1.map unKey)).length := by rw [List.length_map]; exact hlt
      refine ⟨⟨hf, hkv⟩, fun σ2 H2 => ∃ ω' env', Evo ω H0 ω' H2 ∧ Keep (fun t => kp t || t == i) σ σ2 ∧ Good X.K B ω' σ2 H2 env' ∧ SPost X.K X.mg W (fun t => kp t || t == i) B ω' σ2 H2 _ (vFor gt ga ((os.map fun p => .tuple (p.1.map unKey)).drop (k + 1)) env'), fun σ2 H2 ⟨ω2, e2, a1, a2, a3, a4⟩ => ⟨os.length - (k + 1), by omega, ω2, e2, a1, a2, a3, rfl, hlt, a4⟩, fun x H2 hx => ?_⟩
      obtain ⟨hw2, key, v, q, hq1, rfl, hq2⟩ := hx
      subst hw2
      have hkey : key = (os[k]'hlt).1 := kk k key v _ _ hq1 (List.getElem?_eq_getElem hlt)
      rw [List.drop_eq_getElem_cons hdl] at sp
      unfold vFor at sp
      rw [List.getElem_map] at sp
      refine st.run B ω' σ' H2 env' (.ref q) (.tuple ((os[k]'hlt).1.map unKey)) _ G' (key_rw G' (by rw [← hkey]; exact hq2)) ?_
      cases zz : gt (.tuple ((os[k]'hlt).1.map unKey)) env' with
      | none => rw [zz] at sp; exact sp
      | some e1 =>
        rw [zz] at sp
        intro σ3 k3 l3 G3
        have sp := SPost.evo (.refl _ _) k3 sp
        refine sb B ω' σ3 H2 e1 _ G3 (SPost.turn (k := fun e' => vFor gt ga ((os.map fun p => .tuple (p.1.map unKey)).drop (k + 1)) e') sp fun e4 ω4 σ4 H4 ev4 k4 G4 sp4 => ?_)
        exact ⟨ω4, e4, ev'.trans ev4, (ke'.trans k3).trans k4, G4, sp4⟩
    · left
      have : k = os.length := by omega
      subst this
      refine ⟨⟨hf, by rw [l]; exact Nat.le_refl _⟩, ?_⟩
      rw [List.drop_of_length_le (by rw [List.length_map]; exact Nat.le_refl _)] at sp
      exact sp.here_nx G'
end
@[simp] theorem unlR_ok {i : Nat} {fl : Fl} {e : En} : unlR i (.ok fl e) = match e[i]? with
    | some (some (.dcL os)) => .ok fl (e.set i (some (.dcT os)))
    | _ => .bad := rfl
@[simp] theorem fForD_eq {i : Nat} {gt : PyData → En → Option En} {ga : En → Rs Fl} {env : En} : fForD i gt ga env = match env[i]? with
  | some (some (.dcT os)) => unlR i (vFor gt ga (os.map fun p => .tuple (p.1.map unKey)) (env.set i (some (.dcL os))))
  | _ => .bad := rfl
end MV
set_option linter.all false
set_option maxRecDepth 100000
set_option maxHeartbeats 4000000
namespace L2
open PySem PySem.Spec PyProof.Rows
/-! ### max(d.values()), a dict of tuple keys -/
theorem meets_valsR {prog : Program} {w : World} (d : Addr) (hd : (d == sysModules) = false) :
    MeetsIn prog w (Builtin.«dict.values» ⟨[.ref d], []⟩) (fun _ R s => s.TypeIs (.ref d) "dict" ∧
      R (.ok (.ret (.ref s.heap.objs.size))) { s with heap := s.heap.push { cls := .type "dict_values", data := .fields #[.ref d] } }) :=
  .of_wp fun A R s ⟨hm, h⟩ => by
    refine wpAny_bind ?_
    unfold Builtin.Dict.noArgs
    refine wpAny_bind (wpAny_notOrdered_dict hm ?_)
    show wpAny _ _ (pure d) _ _ s
    refine wpAny_pure ?_
    show wpAny _ _ (Builtin.Dict.showsAll d >>= _) _ _ s
    unfold Builtin.Dict.showsAll
    rw [if_neg (by rw [hd]; exact Bool.false_ne_true)]
    refine wpAny_bind (wpAny_pure ?_)
    exact wpAny_bind (wpAny_newObj_type (wpAny_pure ⟨_, rfl, h⟩))
def tMaxValsT (td : TE) : TE := fun σ H Q => td σ H fun x H1 => ∃ a kvs is, x = V.ref a ∧ Rd H1 a (.dT kvs) ∧ kvs.map (·.2) = is.map V.int ∧ is ≠ [] ∧ ∀ m, m ∈ is → (∀ j ∈ is, j ≤ m) → Q (.int m) H1
section
variable {X : Cx} {o : Expr} {p pos apos mpos : Pos} {td : TE}
theorem pe_maxValsT (hc : X.calm = true) (hg : Gl X "max") (hm : X.mg "max" = none) (hd : PE X o td) (hbase : attributeBase o "values" X.env (eval o X.env) = eval o X.env := by rfl) (hline : (apos.endLine == mpos.line) = true := by rfl)
    (hse : starEach [Expr.Call (.Attribute o "values" apos) [] [] mpos] X.env = [(false, eval (Expr.Call (.Attribute o "values" apos) [] [] mpos) X.env)] := by rfl) :
    PE X (.Call (.Name "max" p) [.Call (.Attribute o "values" apos) [] [] mpos] [] pos) (tMaxValsT td) := by
  refine ⟨fun pins s σ H Q I h => ?_⟩
  refine wpAny_Call_Name_kw (ld_blt I hg hm (u := .builtin "max") (by first | rfl | decide +kernel) ?_ (by first | decide +kernel | decide) (by first | decide +kernel | decide))
  rw [hse]
  refine PySem.callWith_builtin1 (wpAny_Call_method0_late hbase hline (thn (hd.run pins s σ H _ I h) fun v s1 ⟨x, H1, I1, r1, a, kvs, is, ex, ha, hv, hne, q⟩ => ?_))
  subst ex
  obtain rfl : v = Value.ref a := r1
  obtain ⟨z, hsys, xs, pr, ob, es, ep, ho, hx, hdat, he, hn⟩ := (show ObjOk X.prog X.w H1 s1.heap a (.dT kvs) from ha.ok I1.hok)
  refine ⟨"dict", "dict.values", F.plainAttrs_dict, F.slot_dict_values, F.type_dict_values, ⟨ob, ho, hx.1⟩, fun b e => ?_, Calls.callWith_builtin rfl (PySem.evalArgs_none ?_)⟩
  · cases e
    exact ⟨ob, ho, hx.2.1⟩
  refine call_meetsIn F.slot_dict_values ⟨ob, ho, hx.1⟩ F.entry_dict_values (F.args_dict_values_1 _) (meets_valsR a hsys) ⟨⟨ob, ho, hx.1⟩, ?_⟩
  have k1 : ∀ b u, s1.heap.get? b = some u → (s1.heap.push { cls := .type "dict_values", data := .fields #[.ref a] }).get? b = some u := fun b u e => Heap.get?_push_of_some _ e
  have ho1 := k1 a ob ho
  have hesz : es.size = xs.length := by rw [← Array.length_toList, he, List.length_map]
  have hxl : kvs.length = xs.length := Paired.length pr
  have hlv : es.size = is.length := by
    have e1 := congrArg List.length hv
    rw [List.length_map, List.length_map] at e1
    omega
  have hlen : 0 < es.size := by
    rw [hlv]
    exact List.length_pos_iff.mpr hne
  have hP : ∀ (i : Nat) (e : DictEntry), es[i]? = some e → ∃ t, e.val = Value.int (is.getD i 0) t := fun i e hi => by
    rw [← Array.getElem?_toList, he, List.getElem?_map] at hi
    cases hq : xs[i]? with
    | none => rw [hq] at hi; cases hi
    | some q =>
      rw [hq] at hi
      cases hi
      have hik : i < kvs.length := by rw [hxl]; exact (List.getElem?_eq_some_iff.mp hq).1
      have hii : i < is.length := by omega
      have hkv : kvs[i]? = some kvs[i] := List.getElem?_eq_getElem hik
      have hr : RelV kvs[i].2 q.2.2 := (MV.paired_get pr hkv hq).2.2
      have e2 : kvs[i].2 = V.int is[i] := by
        have z : (kvs.map (·.2))[i]? = (is.map V.int)[i]? := by rw [hv]
        rw [List.getElem?_map, List.getElem?_map, hkv, List.getElem?_eq_getElem hii] at z
        exact Option.some.inj z
      have e3 : is.getD i 0 = is[i] := by rw [List.getD_eq_getElem?_getD, List.getElem?_eq_getElem hii] <;> rfl
      rw [e2] at hr
      rw [e3]
      exact hr
  have hlt : a < s1.heap.objs.size := Heap.lt_size ho
  have hsz : (s1.heap.push { cls := .type "dict_values", data := .fields #[.ref a] }).objs.size = s1.heap.objs.size + 1 := Heap.size_push _ _
  refine call_max_walk (DSub.iter_vals (v := s1.heap.objs.size) (a := a) (es := es) (ep := ep) (Heap.get?_push_size _ rfl) ho1 hdat ?_)
  refine ⟨_, [(s1.heap.push { cls := .type "dict_values", data := .fields #[.ref a] }).objs.size, a], [(s1.heap.push { cls := .type "dict_values", data := .fields #[.ref a] }).objs.size], es.size, fun i v => ∃ t, v = .int (is.getD i 0) t, _, fun i j => decide (is.getD i 0 > is.getD j 0), rfl, DSub.walksVal (a := a) (show X.A.in1.handled = none from I.ok.hd hc) (by rw [hsz]; exact Nat.ne_of_lt (Nat.lt_succ_of_lt hlt)) hdat hP, ⟨Heap.get?_push_size _ rfl, Heap.get?_push_of_some _ ho1⟩, fun b hb => ?_, hlen, CmpOf.ints_gt (fun i => is.getD i 0) (fun i v z => z), fun v h' tk hv' hk => ?_⟩
  · show b < ((s1.heap.push _).push _).objs.size
    rw [Heap.size_push, Heap.size_push]
    rw [hsz] at hb
    rcases List.mem_cons.mp hb with e | hb
    · rw [e]
      exact Nat.lt_succ_self _
    · have e : b = a := List.mem_singleton.mp hb
      rw [e]
      exact Nat.lt_succ_of_lt (Nat.lt_succ_of_lt hlt)
  · obtain ⟨t, rfl⟩ := hv'
    obtain ⟨b1', b2'⟩ := argBest_gt (fun i => is.getD i 0) (es.size - 1)
    have b1 : argBest (fun i j => decide (is.getD i 0 > is.getD j 0)) (es.size - 1) ≤ es.size - 1 := b1'
    have b2 : ∀ j, j ≤ es.size - 1 → is.getD j 0 ≤ is.getD (argBest (fun i j => decide (is.getD i 0 > is.getD j 0)) (es.size - 1)) 0 := b2'
    refine ⟨.int _, H1, I1.kept (t' := tk) fun b u e => hk b u (fun hmem => ?_) (Heap.get?_push_of_some _ (k1 b u e)), ⟨t, rfl⟩, q _ ?_ fun j hj => ?_⟩
    · have e1 : b = (s1.heap.push { cls := .type "dict_values", data := .fields #[.ref a] }).objs.size := List.mem_singleton.mp hmem
      have e2 := Heap.lt_size e
      rw [hsz] at e1
      rw [e1] at e2
      exact absurd e2 (Nat.not_lt.mpr (Nat.le_succ _))
    · have hb : argBest (fun i j => decide (is.getD i 0 > is.getD j 0)) (es.size - 1) < is.length := by omega
      rw [List.getD_eq_getElem?_getD, List.getElem?_eq_getElem hb]
      exact List.getElem_mem hb
    · obtain ⟨i, hi, e⟩ := List.mem_iff_getElem.mp hj
      have e2 : is.getD i 0 = j := by rw [List.getD_eq_getElem?_getD, List.getElem?_eq_getElem hi, ← e] <;> rfl
      rw [← e2]
      exact b2 i (by omega)
end
end L2
namespace MV
open PySem PySem.Spec PyProof.Rows L2
/-- the values, whole numbers -/
def valsI : List (List Key × O) → Option (List Int)
  | [] => some []
  | (_, .lf (.int i)) :: os => (valsI os).map (i :: ·)
  | _ => none
def gMaxD : O → Option PyData
  | .dcT os => match valsI os with
    | some (n :: ns) => some (.int (maxL (n :: ns)))
    | _ => none
  | .dcL os => match valsI os with
    | some (n :: ns) => some (.int (maxL (n :: ns)))
    | _ => none
  | _ => none
section
variable {K : PySem.W.Frag} {ω : Om} {H : Hp}
theorem valsI_cons {k : List Key} {o : O} {os : List (List Key × O)} {l : List Int} (h : valsI ((k, o) :: os) = some l) : ∃ i l', o = .lf (.int i) ∧ valsI os = some l' ∧ l = i :: l' := by
  unfold valsI at h
  split at h
  · rename_i heq; cases heq
  · rename_i k' i os' heq
    cases heq
    cases e : valsI os with
    | none => rw [e] at h; cases h
    | some l' => rw [e] at h; cases h; exact ⟨i, l', rfl, rfl, rfl⟩
  · cases h
theorem valsI_rel : ∀ {os : List (List Key × O)} {vs : List (List Key × V)} {is : List Int} {P : Nat → List Nat}, valsI os = some is → vs.length = os.length → (∀ (i : Nat) k v k' o, vs[i]? = some (k, v) → os[i]? = some (k', o) → RO K ω H (P i) v o) → vs.map (·.2) = is.map V.int
  | [], [], is, P, h, _, _ => by unfold valsI at h; cases h; rfl
  | [], _ :: _, _, _, _, l, _ => by simp at l
  | _ :: _, [], _, _, _, l, _ => by simp at l
  | (k', o) :: os, (k, v) :: vs, is, P, h, l, g => by
    obtain ⟨i, l', rfl, h2, rfl⟩ := valsI_cons h
    have := g 0 k v k' _ rfl rfl
    cases this with
    | lf r =>
      cases r
      rw [List.map_cons, List.map_cons, valsI_rel (P := fun n => P (n + 1)) h2 (by simpa using l) fun n k v k' o e1 e2 => g (n + 1) k v k' o (by simpa using e1) (by simpa using e2)]
theorem maxD_rel {p : List Nat} {v : V} {o : O} {w : PyData} (r : RO K ω H p v o) (h : gMaxD o = some w) : ∃ a kvs is, v = .ref a ∧ Rd H a (.dT kvs) ∧ kvs.map (·.2) = is.map V.int ∧ is ≠ [] ∧ w = .int (maxL is) := by
  cases r with
  | @dcT _ a vs os e1 e2 l kk g =>
    unfold gMaxD at h
    dsimp only at h
    split at h
    · rename_i n ns hv
      cases h
      exact ⟨a, vs, n :: ns, rfl, .inl e2, valsI_rel (P := fun i => p ++ [i]) hv l g, by simp, rfl⟩
    · cases h
  | @dcL _ a od vs os e1 e2 l kk g =>
    unfold gMaxD at h
    dsimp only at h
    split at h
    · rename_i n ns hv
      cases h
      exact ⟨a, vs, n :: ns, rfl, .inr ⟨od, e2⟩, valsI_rel (P := fun i => p ++ [i]) hv l g, by simp, rfl⟩
    · cases h
  | _ => cases h
end
section
variable {X : Cx} {W : WX} {q : Bool} {o : Expr} {p pos apos mpos : Pos} {f : En → Rs Vl} {h : En → Rs O}
/-- max(d.values()), d a name's -/
def fMaxD (f : En → Rs Vl) : En → Rs Vl := fun env => (f env).bind fun x e => match x with
  | .pl o _ => match gMaxD o with
    | some w => .ok (.lf w) e
    | none => .bad
  | _ => .bad
theorem ve_maxD (hc : X.calm = true) (hg : Gl X "max") (hm : X.mg "max" = none) (h0 : VE X W q o f) (hbase : attributeBase o "values" X.env (eval o X.env) = eval o X.env := by rfl) (hline : (apos.endLine == mpos.line) = true := by rfl)
    (hse : starEach [Expr.Call (.Attribute o "values" apos) [] [] mpos] X.env = [(false, eval (Expr.Call (.Attribute o "values" apos) [] [] mpos) X.env)] := by rfl) :
    VE X W q (.Call (.Name "max" p) [.Call (.Attribute o "values" apos) [] [] mpos] [] pos) (fMaxD f) := by
  obtain ⟨ta, pa, sa⟩ := h0.ex
  refine ⟨_, pe_maxValsT hc hg hm pa hbase hline hse, ⟨fun hq env x e z => ?_, fun B ω σ H env Q G z => sa.run B ω σ H env _ G ((EPost.bind (q1 := q) (q2 := true) (by rw [Bool.and_true]; exact z)).imp fun x e ω1 H1 _ ev qu G1 h1 => fun v rv => ?_)⟩⟩
  · obtain ⟨a, e1, z1, z2⟩ := Rs.bind_st (env := env) z
    split at z2
    · split at z2 <;> cases z2
      exact sa.st hq _ _ _ z1
    · cases z2
  · split at h1
    · rename_i o' up
      split at h1
      · rename_i w hw
        obtain ⟨pp, ro, _⟩ := rv
        obtain ⟨a, kvs, is, rfl, hr, hk, hne, rfl⟩ := maxD_rel ro hw
        exact ⟨a, kvs, is, rfl, hr, hk, hne, fun m m1 m2 => EPost.ok_here G1 h1 _ (by rw [maxL_eq m1 m2]; exact .int _)⟩
      · exact h1.elim
    · exact h1.elim
/-- max(d.values()), d a new thing -/
def fMaxDO (h : En → Rs O) : En → Rs Vl := fun env => (h env).bind fun o e => match gMaxD o with
  | some w => .ok (.lf w) e
  | none => .bad
theorem ve_maxDO (hc : X.calm = true) (hg : Gl X "max") (hm : X.mg "max" = none) (h0 : VO X W o h) (hbase : attributeBase o "values" X.env (eval o X.env) = eval o X.env := by rfl) (hline : (apos.endLine == mpos.line) = true := by rfl)
    (hse : starEach [Expr.Call (.Attribute o "values" apos) [] [] mpos] X.env = [(false, eval (Expr.Call (.Attribute o "values" apos) [] [] mpos) X.env)] := by rfl) :
    VE X W false (.Call (.Name "max" p) [.Call (.Attribute o "values" apos) [] [] mpos] [] pos) (fMaxDO h) := by
  obtain ⟨ta, pa, sa⟩ := h0.ex
  refine ⟨_, pe_maxValsT hc hg hm pa hbase hline hse, ⟨fun hq => (nomatch hq), fun B ω σ H env Q G z => sa B ω σ H env _ G ?_⟩⟩
  unfold fMaxDO at z
  cases hh : h env with
  | bad => rw [hh] at z; exact z
  | ex c e => rw [hh] at z; exact z
  | ok o e =>
    rw [hh] at z
    intro ω1 H1 v ev G1 r
    have hl : e.length ≤ B := by rw [← G1.len, G.len]; exact G.nB
    have z2 : EPost X.K X.mg W false B ω σ H (PV X.K σ Q) (match gMaxD o with | some w => .ok (.lf w) e | none => .bad) := z
    split at z2
    · rename_i w hw
      obtain ⟨ω3, ev3, hrw, G3⟩ := G1.drop1 hl
      obtain ⟨a, kvs, is, rfl, hr, hk, hne, rfl⟩ := maxD_rel r hw
      exact ⟨a, kvs, is, rfl, hr, hk, hne, fun m m1 m2 => z2 ω3 H1 (ev.trans ev3) (fun hq => nomatch hq) G3 _ (by rw [maxL_eq m1 m2]; exact .int _)⟩
    · exact z2.elim
end
@[simp] theorem fMaxD_eq {f : En → Rs Vl} {env : En} : fMaxD f env = (f env).bind fun x e => match x with
  | .pl o _ => match gMaxD o with
    | some w => .ok (.lf w) e
    | none => .bad
  | _ => .bad := rfl
@[simp] theorem fMaxDO_eq {h : En → Rs O} {env : En} : fMaxDO h env = (h env).bind fun o e => match gMaxD o with
  | some w => .ok (.lf w) e
  | none => .bad := rfl
end MV
set_option Elab.async false
set_option linter.all false
set_option maxRecDepth 100000
set_option maxHeartbeats 4000000
/-! Tuples that hold things of one's own: a def answers with one, the caller unpacks it. -/
namespace MV
open PySem PySem.Spec PyProof.Rows L2
def noneE : List Nat → En → En
  | [], e => e
  | i :: is, e => noneE is (e.set i none)
def setE : List Nat → List O → En → En
  | i :: is, o :: os, e => setE is os (e.set i (some o))
  | _, _, e => e
def setS : List Nat → List V → L2.St → L2.St
  | i :: is, v :: vs, σ => setS is vs (σ.set i (some v))
  | _, _, σ => σ
/-- a tuple, its parts frozen or names' own things -/
def fOTup (fr : En → Rs (List Arg)) : En → Rs O := fun env => (fr env).bind fun xs e => if (mvs xs).Nodup then match takeA e xs with
  | some os => if os.length ≤ sizeLine then .ok (.tup os) (noneE (mvs xs) e) else .bad
  | none => .bad else .bad
theorem noneE_len : ∀ {is : List Nat} {e : En}, (noneE is e).length = e.length
  | [], e => rfl
  | i :: is, e => by rw [noneE, noneE_len, List.length_set]
theorem noneE_get : ∀ {is : List Nat} {e : En} {j : Nat} {o : O}, (noneE is e)[j]? = some (some o) → j ∉ is ∧ e[j]? = some (some o)
  | [], e, j, o, h => ⟨by simp, h⟩
  | i :: is, e, j, o, h => by
    rw [noneE] at h
    obtain ⟨h1, h2⟩ := noneE_get h
    by_cases hj : i = j
    · subst hj
      rw [List.getElem?_set] at h2
      split at h2
      · split at h2 <;> cases h2
      · rename_i hne; exact absurd rfl hne
    · rw [List.getElem?_set_ne hj] at h2
      exact ⟨by simp only [List.mem_cons, not_or]; exact ⟨fun e => hj e.symm, h1⟩, h2⟩
theorem setE_len : ∀ {is : List Nat} {os : List O} {e : En}, (setE is os e).length = e.length
  | [], _, e => by cases ‹List O› <;> rfl
  | i :: is, [], e => rfl
  | i :: is, o :: os, e => by rw [setE, setE_len, List.length_set]
theorem setS_len : ∀ {is : List Nat} {os : List V} {e : L2.St}, (setS is os e).length = e.length
  | [], _, e => by cases ‹List V› <;> rfl
  | i :: is, [], e => rfl
  | i :: is, o :: os, e => by rw [setS, setS_len, List.length_set]
theorem setE_get : ∀ {is : List Nat} {os : List O} {e : En} {j : Nat} {o : O}, is.Nodup → os.length = is.length → (setE is os e)[j]? = some (some o) → (j ∉ is ∧ e[j]? = some (some o)) ∨ ∃ k : Nat, is[k]? = some j ∧ os[k]? = some o
  | [], os, e, j, o, _, _, h => .inl ⟨by simp, by cases os <;> exact h⟩
  | i :: is, [], e, j, o, _, hl, h => by simp at hl
  | i :: is, o' :: os, e, j, o, nd, hl, h => by
    obtain ⟨n1, n2⟩ := List.nodup_cons.mp nd
    rw [setE] at h
    rcases setE_get n2 (by simpa using hl) h with ⟨h1, h2⟩ | ⟨k, h1, h2⟩
    · by_cases hj : i = j
      · subst hj
        rw [List.getElem?_set] at h2
        split at h2
        · split at h2
          · cases h2; exact .inr ⟨0, rfl, rfl⟩
          · cases h2
        · rename_i hne; exact absurd rfl hne
      · rw [List.getElem?_set_ne hj] at h2
        exact .inl ⟨by simp only [List.mem_cons, not_or]; exact ⟨fun e => hj e.symm, h1⟩, h2⟩
    · exact .inr ⟨k + 1, by simpa using h1, by simpa using h2⟩
theorem setS_ne : ∀ {is : List Nat} {vs : List V} {σ : L2.St} {j : Nat}, j ∉ is → (setS is vs σ)[j]? = σ[j]?
  | [], vs, σ, j, _ => by cases vs <;> rfl
  | i :: is, [], σ, j, _ => rfl
  | i :: is, v :: vs, σ, j, h => by
    simp only [List.mem_cons, not_or] at h
    rw [setS, setS_ne h.2, List.getElem?_set_ne (fun e => h.1 e.symm)]
theorem setS_get : ∀ {is : List Nat} {vs : List V} {σ : L2.St} {j k : Nat} {v : V}, is.Nodup → is[k]? = some j → vs[k]? = some v → j < σ.length → (setS is vs σ)[j]? = some (some v)
  | [], vs, σ, j, k, v, _, h, _, _ => by simp at h
  | i :: is, [], σ, j, k, v, _, _, h, _ => by simp at h
  | i :: is, v' :: vs, σ, j, 0, v, nd, h1, h2, hl => by
    simp at h1 h2
    subst h1; subst h2
    rw [setS, setS_ne (List.nodup_cons.mp nd).1, List.getElem?_set_self hl]
  | i :: is, v' :: vs, σ, j, k + 1, v, nd, h1, h2, hl => by
    rw [setS]
    exact setS_get (List.nodup_cons.mp nd).2 (by simpa using h1) (by simpa using h2) (by rw [List.length_set]; exact hl)
/-- whose things are when the tuple is made -/
def ωtp (xs : List Arg) (B : Nat) (ω : Om) : Om := fun a => match ω a with
  | .mine (r :: q) => (match idx xs r with
    | some k => .mine (B :: k :: q)
    | none => .mine (r :: q))
  | x => x
theorem ωtp_fr {xs : List Arg} {B : Nat} {ω : Om} {a : Addr} (h : ω a = .fr) : ωtp xs B ω a = .fr := by unfold ωtp; rw [h]
section
variable {X : Cx} {W : WX} {kp : Nat → Bool} {q q1 q2 q3 m : Bool} {e a b c tg iter elt : Expr} {es rest ifs : List Expr} {pos : Pos} {f fa fb fc fe : En → Rs Vl} {fr : En → Rs (List Arg)} {K : PySem.W.Frag} {mg : Str → Option Value}
theorem vo_otup {k : Nat} (h : VAC X W q m es fr) : VO X W (.Tuple es k pos) (fOTup fr) := by
  obtain ⟨t, p, s⟩ := h.ex
  refine ⟨_, pe_tup p, fun B ω σ H env Q G z => s.run B ω σ H env _ G ((OPost.bindA z).imp fun xs e ω1 H1 _ ev qu G1 h1 => fun vs ra => ?_)⟩
  split at h1
  · rename_i nd
    split at h1
    · rename_i os ht
      split at h1
      · rename_i hsz
        obtain ⟨hl, hg⟩ := takeA_get ht
        refine ⟨by rw [ra.1, ← hl]; exact hsz, fun D hD => ?_⟩
        have hfrD : ω1 D = .fr := G1.wf D (.of hD)
        have hup : ∀ a x, H1 a = some x → upd H1 D (.tup vs) a = some x := fun a x y => (upd_ne (ne_of_none y hD)).trans y
        have hfr : ∀ a x, H1 a = some x → ω1 a = .fr → ωtp xs B ω1 a = .fr ∧ upd H1 D (.tup vs) a = some x := fun a x y z => ⟨ωtp_fr z, hup a x y⟩
        refine h1 (ωtp xs B ω1) _ _ ⟨fun a o y z => ⟨ωtp_fr z, hup a o y⟩, fun a o y z => ⟨by unfold ωtp; rw [z], hup a o y⟩, fun a z => ?_, fun a o u y => hup a _ y⟩ ⟨fun j o y => ?_, fun a p z => ?_, fun a z => ?_, by rw [noneE_len]; exact Nat.le_succ_of_le G1.nB, by rw [noneE_len]; exact G1.len⟩ ?_
        · unfold ωtp at z
          split at z
          · split at z <;> cases z
          · exact z
        · obtain ⟨hj, y⟩ := noneE_get y
          obtain ⟨u, k1, k2⟩ := G1.rel j o y
          refine ⟨u, k1, k2.tr [j] (fun a x q z y => ⟨?_, hup a x y⟩) hfr⟩
          unfold ωtp
          rw [show ω1 a = .mine (j :: q) from z]
          simp only [idx_none hj]
          rfl
        · unfold ωtp at z
          split at z
          · rename_i r q' hr
            split at z
            · cases z; exact ⟨B, _, rfl, Nat.lt_succ_self _⟩
            · cases z
              obtain ⟨r', q'', e1, e2⟩ := G1.root a _ hr
              exact ⟨r', q'', e1, Nat.lt_succ_of_lt e2⟩
          · obtain ⟨r', q'', e1, e2⟩ := G1.root a p z
            exact ⟨r', q'', e1, Nat.lt_succ_of_lt e2⟩
        · by_cases ha : a = D
          · rw [ha]; exact ωtp_fr hfrD
          · rw [upd_ne ha] at z; exact ωtp_fr (G1.wf a z)
        · refine .tup ⟨upd_same, ωtp_fr hfrD⟩ (by rw [ra.1, hl]) fun i v o y1 y2 => ?_
          have hi : i < xs.length := by rw [← ra.1]; exact (List.getElem?_eq_some_iff.mp y1).1
          have hx : xs[i]? = some xs[i] := by simp [hi]
          have hr := ra.2 i v _ y1 hx
          have ho := hg i _ o hx y2
          cases zz : xs[i] with
          | va w =>
            rw [zz] at hr ho
            cases ho
            exact .lf (RW.tr (fun a x y z => hfr a x y z) hr)
          | mv r =>
            rw [zz] at hr ho hx
            obtain ⟨u, e1, e2⟩ := G1.rel r o ho
            have hr : σ[r]? = some (some v) := hr
            rw [e1] at hr; cases hr
            refine e2.tr ([B] ++ [i]) (fun a x q z y => ⟨?_, hup a x y⟩) hfr
            unfold ωtp
            rw [show ω1 a = .mine (r :: q) from z]
            simp only [idx_of nd hx]
            rfl
      · exact h1.elim
    · exact h1.elim
  · exact h1.elim
/-! names, one after another -/
structure VNs (X : Cx) (kp : Nat → Bool) (ts : List Expr) (is : List Nat) : Prop where
  ex : ∃ g, PGs X ts g ∧ (∀ vs σ H Q, vs.length = is.length → Q (setS is vs σ) H → g vs σ H Q) ∧ ∀ i ∈ is, kp i = false
theorem vns_nil : VNs X kp [] [] := ⟨_, pgs_nil, fun vs σ H Q hl h => by
  have := List.length_eq_zero_iff.mp hl
  subst this
  exact ⟨rfl, h⟩, by simp⟩
theorem vns_cons {i : Nat} {x : Str} {is : List Nat} (hN : X.N.Nodup) (hi : X.N[i]? = some x) (hx : Loc X.env.scope x) (h2 : VNs X kp es is) (hk : kp i = false := by rfl) (hf : X.fn x = true ∨ X.env.scope.names.lookup x = some .local := by first | exact .inl rfl | exact .inr rfl | assumption)
    (hs : (assignEach (.Name x pos :: es) X.env).map (·.2) = assign (.Name x pos) X.env :: (assignEach es X.env).map (·.2) := by rfl) : VNs X kp (.Name x pos :: es) (i :: is) := by
  obtain ⟨g, p, s, t⟩ := h2.ex
  refine ⟨_, pgs_cons (pg_name hN hi hx hf) p hs, fun vs σ H Q hl h => ?_, fun j hj => ?_⟩
  · cases vs with
    | nil => simp at hl
    | cons v vs => exact ⟨v, vs, rfl, s vs _ H Q (by simpa using hl) h⟩
  · rcases List.mem_cons.mp hj with rfl | hj
    · exact hk
    · exact t j hj
theorem Keep.setS {kp : Nat → Bool} : ∀ {is : List Nat} {vs : List V} {σ : L2.St}, (∀ i ∈ is, kp i = false) → Keep kp σ (setS is vs σ)
  | [], vs, σ, _ => by cases vs <;> exact Keep.refl _ _
  | i :: is, [], σ, _ => Keep.refl _ _
  | i :: is, v :: vs, σ, h => (Keep.set (h i List.mem_cons_self)).trans (Keep.setS fun j hj => h j (List.mem_cons_of_mem _ hj))
/-- a, b, c = a tuple that holds things of one's own -/
def fAsgT (is : List Nat) (fo : En → Rs O) : En → Rs Fl := fun env => (fo env).bind fun o e => match o with
  | .tup os => if os.length = is.length ∧ is.Nodup ∧ ∀ i ∈ is, i < e.length then .ok .nx (setE is os e) else .bad
  | _ => .bad
def ωup (is : List Nat) (B : Nat) (ω : Om) : Om := fun a => match ω a with
  | .mine (r :: q) => if r = B then (match q with
    | [] => .fr
    | k :: q' => match is[k]? with
      | some i => .mine (i :: q')
      | none => .fr) else .mine (r :: q)
  | .mine [] => .fr
  | x => x
theorem ωup_fr {is : List Nat} {B : Nat} {ω : Om} {a : Addr} (h : ω a = .fr) : ωup is B ω a = .fr := by unfold ωup; rw [h]
theorem vs_asgT {k : Nat} {is : List Nat} {fo : En → Rs O} {n : Nat} (h : VO X W e fo) (hg : VNs X kp es is) (hc : X.calm = true := by rfl) (hn : (assignEach es X.env).length = n := by rfl) (hni : is.length = n := by rfl) (hst : (assignEach es X.env).findIdx? (·.1) = none := by rfl)
    (hs : swapsWithSole [.Tuple es k tpos] e pos.line X.env = pure false := by rfl) (hw : swappedStores [.Tuple es k tpos] e X.env = pure none := by rfl)
    (h1 : (assignEach [.Tuple es k tpos] X.env).map (·.2) = [assign (.Tuple es k tpos) X.env] := by rfl) : VS X W kp (.Assign [.Tuple es k tpos] e pos) (fAsgT is fo) := by
  obtain ⟨t, p, s⟩ := h.ex
  obtain ⟨g, p', s', hk⟩ := hg.ex
  refine ⟨_, ps_asg p (pg_tup hc p' hn hst) hs hw h1, fun B ω σ H env D G z => s B ω σ H env _ G (SPost.bindO z fun o e _ ω1 H1 v ev G1 r h1 => ?_)⟩
  cases o with
  | tup os =>
    have h1 : SPost X.K X.mg W kp B ω σ H D (if os.length = is.length ∧ is.Nodup ∧ ∀ i ∈ is, i < e.length then .ok .nx (setE is os e) else .bad) := h1
    split at h1
    · rename_i hh
      obtain ⟨hl, nd, hlt⟩ := hh
      cases r with
      | @tup _ a vs _ f l rr =>
        have hlen : e.length ≤ B := by rw [← G1.len, G.len]; exact G.nB
        refine ⟨a, vs, rfl, f.sq, by rw [l, hl, hni], s' vs σ H1 _ (l.trans hl) ?_⟩
        have hfr : ∀ a x, H1 a = some x → ω1 a = .fr → ωup is B ω1 a = .fr ∧ H1 a = some x := fun a x y z => ⟨ωup_fr z, y⟩
        refine h1 (ωup is B ω1) _ H1 ⟨fun a o y z => ?_, fun a o y z => ?_, fun a z => ?_, ev.frz⟩ (Keep.setS hk) ⟨fun j o y => ?_, fun a p z => ?_, fun a z => ωup_fr (G1.wf a z), by rw [setE_len]; exact hlen, by rw [setE_len, setS_len]; exact G1.len⟩
        · obtain ⟨k1, k2⟩ := ev.fr a o y z
          exact ⟨ωup_fr k1, k2⟩
        · obtain ⟨k1, k2⟩ := ev.out a o y z
          exact ⟨by unfold ωup; rw [k1], k2⟩
        · refine ev.back a ?_
          unfold ωup at z
          split at z
          · split at z
            · split at z
              · cases z
              · split at z <;> cases z
            · cases z
          · cases z
          · exact z
        · rcases setE_get nd hl y with ⟨hj, y⟩ | ⟨k', y1, y2⟩
          · obtain ⟨u, k1, k2⟩ := G1.rel j o y
            have hjl : j < e.length := (List.getElem?_eq_some_iff.mp y).1
            refine ⟨u, by rw [setS_ne hj]; exact k1, k2.tr [j] (fun a x q z y => ⟨?_, y⟩) hfr⟩
            unfold ωup
            rw [show ω1 a = .mine (j :: q) from z]
            simp only
            rw [if_neg (by omega)]
            rfl
          · have hk' : k' < vs.length := by rw [l]; exact (List.getElem?_eq_some_iff.mp y2).1
            have hv : vs[k']? = some vs[k'] := by simp [hk']
            refine ⟨vs[k'], setS_get nd y1 hv (by rw [G1.len]; exact hlt j (List.mem_of_getElem? y1)), (rr k' _ _ hv y2).tr [j] (fun a x q z y => ⟨?_, y⟩) hfr⟩
            unfold ωup
            rw [show ω1 a = .mine (B :: k' :: q) from z]
            simp only [if_true, y1]
            rfl
        · unfold ωup at z
          split at z
          · rename_i r q' hr
            split at z
            · split at z
              · cases z
              · split at z
                · rename_i i' hi'
                  cases z
                  exact ⟨i', _, rfl, Nat.lt_of_lt_of_le (hlt i' (List.mem_of_getElem? hi')) hlen⟩
                · cases z
            · rename_i hne
              cases z
              obtain ⟨r', q'', e1, e2⟩ := G1.root a _ hr
              cases e1
              exact ⟨r, q', rfl, by omega⟩
          · cases z
          · rename_i x h1 h2
            rw [z] at h1 h2
            cases p with
            | nil => exact (h2 rfl).elim
            | cons r q => exact (h1 r q rfl).elim
    · exact h1.elim
  | _ => exact h1.elim
end
/-! readings -/
section
variable {env : En} {fr : En → Rs (List Arg)} {fo : En → Rs O} {is : List Nat}
@[simp] theorem fOTup_eq : fOTup fr env = (fr env).bind fun xs e => if (mvs xs).Nodup then match takeA e xs with
  | some os => if os.length ≤ sizeLine then .ok (.tup os) (noneE (mvs xs) e) else .bad
  | none => .bad else .bad := rfl
@[simp] theorem fAsgT_eq : fAsgT is fo env = (fo env).bind fun o e => match o with
  | .tup os => if os.length = is.length ∧ is.Nodup ∧ ∀ i ∈ is, i < e.length then .ok .nx (setE is os e) else .bad
  | _ => .bad := rfl
@[simp] theorem noneE_nil {e : En} : noneE [] e = e := rfl
@[simp] theorem noneE_cons {i : Nat} {e : En} : noneE (i :: is) e = noneE is (e.set i none) := rfl
@[simp] theorem setE_cons {i : Nat} {o : O} {os : List O} {e : En} : setE (i :: is) (o :: os) e = setE is os (e.set i (some o)) := rfl
@[simp] theorem setE_nil {e : En} : setE [] [] e = e := rfl
@[simp] theorem er_tup {os : List O} : (O.tup os).er = (O.ers os).map .tuple := by rw [O.er]
end
end MV
set_option Elab.async false
set_option linter.all false
set_option maxRecDepth 100000
set_option maxHeartbeats 4000000
/-! Things of one's own seen as frozen, for as long as an expression takes that answers with something plain. -/
namespace MV
open PySem PySem.Spec PyProof.Rows L2
def frzE (env : En) : En := env.map fun s => match s with
  | some o => (match o.er with
    | some w => some (.lf w)
    | none => none)
  | none => none
/-- plain, or a tuple of plain things: no address of it has an owner -/
def scalT : PyData → Bool
  | .tuple ws => ws.all scalW
  | w => scalW w
theorem RW.scalT {K : PySem.W.Frag} {ω ω' : Om} {H : Hp} {v : V} {w : PyData} (h : RW K ω H v w) (hs : MV.scalT w = true) (ht : ∀ a vs, H a = some (.tup vs) → ω' a = .fr) : RW K ω' H v w := by
  cases h with
  | non => exact .non
  | bl b => exact .bl b
  | int i => exact .int i
  | str x => exact .str x
  | lst => cases hs
  | @tup a vs ws f l g =>
    have hs : ws.all scalW = true := hs
    rw [List.all_eq_true] at hs
    exact .tup ⟨f.1, ht a vs f.1⟩ l fun i v w e1 e2 => (g i v w e1 e2).scal (hs w (List.mem_of_getElem? e2))
mutual
/-- own lists of plain things -/
def O.sc : O → Bool
  | .lf w => scalT w
  | .lst os => O.scs os
  | .dct _ => false
  | .dcT _ => false
  | .dcL _ => false
  | .ins _ _ => false
  | .tup _ => false
def O.scs : List O → Bool
  | [] => true
  | o :: os => o.sc && O.scs os
end
theorem scs_get : ∀ {os : List O}, O.scs os = true → ∀ (i : Nat) o, os[i]? = some o → o.sc = true
  | [], _, i, o, h => by simp at h
  | o' :: os, hs, i, o, h => by
    rw [O.scs, Bool.and_eq_true] at hs
    cases i with
    | zero => simp at h; subst h; exact hs.1
    | succ i => exact scs_get hs.2 i o (by simpa using h)
section
variable {K : PySem.W.Frag} {mg : Str → Option Value} {ω ω' : Om} {σ : L2.St} {H H' : Hp} {B : Nat} {env : En}
theorem Good.lent (G : Good K B ω σ H env) : Good K B (ωs ω) σ H (frzE env) := by
  refine ⟨fun i o e => ?_, fun a p z => ?_, fun a z => by unfold ωs; rw [G.wf a z], by unfold frzE; rw [List.length_map]; exact G.nB, by unfold frzE; rw [List.length_map]; exact G.len⟩
  · unfold frzE at e
    rw [List.getElem?_map] at e
    cases h : env[i]? with
    | none => rw [h] at e; cases e
    | some s =>
      rw [h] at e
      cases s with
      | none => cases e
      | some o' =>
        simp only [Option.map_some] at e
        cases her : o'.er with
        | none => rw [her] at e; cases e
        | some w =>
          rw [her] at e
          cases e
          obtain ⟨v, h1, h2⟩ := G.rel i o' h
          exact ⟨v, h1, .lf (h2.frz w her (fun a z k => by unfold ωs; rw [k]) fun a k => by unfold ωs; rw [k])⟩
  · unfold ωs at z; split at z <;> cases z
theorem RO.sc {p : List Nat} {v : V} {o : O} (h : RO K ω H p v o) (ht : ∀ a vs, H a = some (.tup vs) → ω' a = .fr) : o.sc = true → (∀ a x q, ω a = .mine (p ++ q) → H a = some x → ω' a = .mine (p ++ q)) → RO K ω' H p v o := by
  induction h with
  | lf r => intro hs hm; rw [O.sc] at hs; exact .lf (r.scalT hs ht)
  | lst e1 e2 l _ ih =>
    intro hs hm
    rw [O.sc] at hs
    have h1 := hm _ _ [] (by simpa using e1) e2
    exact .lst (by simpa using h1) e2 l fun i v o q1 q2 => ih i v o q1 q2 (scs_get hs i o q2) (fun a x q z1 z2 => by have := hm a x ([i] ++ q) (by simpa using z1) z2; simpa using this)
  | dct => intro hs; rw [O.sc] at hs; cases hs
  | dcT => intro hs; rw [O.sc] at hs; cases hs
  | dcL => intro hs; rw [O.sc] at hs; cases hs
  | ins => intro hs; rw [O.sc] at hs; cases hs
  | tup => intro hs; rw [O.sc] at hs; cases hs
/-- what was lent comes back, beside a new thing -/
theorem lent_back2 (G : Good K B ω σ H env) {v : V} {o : O} (ev : Evo (ωs ω) H ω' H') (hr : ∀ a p, ω' a = .mine p → ∃ r q, p = r :: q ∧ r < B + 1) (hwf : ∀ a, Nw (H' a) → ω' a = .fr) (r : RO K ω' H' [B] v o) (hs : o.sc = true) : ∃ ω2, Evo ω H ω2 H' ∧ Good K (B + 1) ω2 σ H' env ∧ RO K ω2 H' [B] v o := by
  have keep : ∀ a o, H a = some o → H' a = some o ∧ ∀ p, ω' a ≠ .mine p := fun a o e => by
    cases z : ω a with
    | out =>
      obtain ⟨h1, h2⟩ := ev.out a o e (by unfold ωs; rw [z])
      exact ⟨h2, fun p hp => by rw [h1] at hp; cases hp⟩
    | fr =>
      obtain ⟨h1, h2⟩ := ev.fr a o e (by unfold ωs; rw [z])
      exact ⟨h2, fun p hp => by rw [h1] at hp; cases hp⟩
    | mine p =>
      obtain ⟨h1, h2⟩ := ev.fr a o e (by unfold ωs; rw [z])
      exact ⟨h2, fun p hp => by rw [h1] at hp; cases hp⟩
  have qu : Quiet ω H (fun a => if (H a).isSome then ω a else (match ω' a with
    | .mine p => .mine p
    | _ => .fr)) H' := by
    refine ⟨fun a o e => ⟨(keep a o e).1, by simp [e]⟩, fun a z => ?_⟩
    split at z
    · exact z
    · split at z <;> cases z
  refine ⟨_, qu.evo, ⟨fun i o e => ?_, fun a p z => ?_, fun a z => ?_, Nat.le_succ_of_le G.nB, G.len⟩, r.sc (fun a vs z => ?_) hs fun a x q z1 z2 => ?_⟩
  · obtain ⟨v, h1, h2⟩ := G.rel i o e
    exact ⟨v, h1, h2.quiet qu⟩
  · split at z
    · obtain ⟨r', q', h1, h2⟩ := G.root a p z
      exact ⟨r', q', h1, Nat.lt_succ_of_lt h2⟩
    · split at z
      · rename_i hp
        cases z
        exact hr a p hp
      · cases z
  · split
    · rename_i h
      obtain ⟨o, e⟩ := Option.isSome_iff_exists.mp h
      rw [(keep a o e).1] at z; exact G.wf a (by rw [e]; exact z)
    · rw [hwf a z]
  · split
    · rename_i h
      obtain ⟨o, e⟩ := Option.isSome_iff_exists.mp h
      rw [(keep a o e).1] at z
      cases z
      exact G.wf a (by rw [e]; trivial)
    · rw [hwf a (by rw [z]; trivial)]
  · split
    · rename_i h
      obtain ⟨o, e⟩ := Option.isSome_iff_exists.mp h
      exact absurd z1 ((keep a o e).2 _)
    · rw [z1]
end
def fLendV (f : En → Rs Vl) : En → Rs Vl := fun env => match f (frzE env) with
  | .ok (.lf w) _ => if scalW w then .ok (.lf w) env else .bad
  | .ok (.pl _ _) _ => .bad
  | .ex c _ => .ex c env
  | .bad => .bad
def fLendT (f : En → Rs Bool) : En → Rs Bool := fun env => match f (frzE env) with
  | .ok b _ => .ok b env
  | .ex c _ => .ex c env
  | .bad => .bad
def fLendO (f : En → Rs O) : En → Rs O := fun env => match f (frzE env) with
  | .ok o _ => if o.sc then .ok o env else .bad
  | .ex c _ => .ex c env
  | .bad => .bad
section
variable {X : Cx} {W : WX} {kp : Nat → Bool} {q q1 q2 q3 m : Bool} {e a b c tg iter elt : Expr} {es rest ifs : List Expr} {pos : Pos} {f fa fb fc : En → Rs Vl} {fe : En → Rs O} {ft : En → Rs Bool} {K : PySem.W.Frag} {mg : Str → Option Value} {te : TE}
theorem ve_lend (h : VE X W q e f) : VE X W q e (fLendV f) := by
  obtain ⟨t, p, s⟩ := h.ex
  refine ⟨_, p, ⟨fun hq env x e z => ?_, fun B ω σ H env Q G z => s.run B (ωs ω) σ H (frzE env) Q G.lent ?_⟩⟩
  · unfold fLendV at z
    split at z
    · split at z <;> cases z; rfl
    all_goals cases z
  · unfold fLendV at z
    cases y : f (frzE env) with
    | bad => rw [y] at z; exact z
    | ex c e' =>
      rw [y] at z
      intro ω' H' C hC ev G'
      obtain ⟨ω2, qu2, G2⟩ := lent_back G ev G'.wf
      exact z ω2 H' C hC qu2.evo G2
    | ok x e' =>
      rw [y] at z
      intro ω' H' ev _ G' v rv
      obtain ⟨ω2, qu2, G2⟩ := lent_back G ev G'.wf
      cases x with
      | pl o up => exact z.elim
      | lf w =>
        dsimp only at z
        split at z
        · rename_i hs
          exact z ω2 H' qu2.evo (fun _ => qu2) G2 v (RW.scal (show RW X.K ω' H' v w from rv) hs)
        · exact z.elim
theorem vt_lend (h : VT X W q e ft) : VT X W q e (fLendT ft) := by
  obtain ⟨t, p, s⟩ := h.ex
  refine ⟨_, p, ⟨fun hq env x e z => ?_, fun B ω σ H env Q G z => s.run B (ωs ω) σ H (frzE env) Q G.lent ?_⟩⟩
  · unfold fLendT at z
    split at z <;> cases z
    rfl
  · unfold fLendT at z
    cases y : ft (frzE env) with
    | bad => rw [y] at z; exact z
    | ex c e' =>
      rw [y] at z
      intro ω' H' C hC ev G'
      obtain ⟨ω2, qu2, G2⟩ := lent_back G ev G'.wf
      exact z ω2 H' C hC qu2.evo G2
    | ok x e' =>
      rw [y] at z
      intro ω' H' ev _ G'
      obtain ⟨ω2, qu2, G2⟩ := lent_back G ev G'.wf
      exact z ω2 H' qu2.evo (fun _ => qu2) G2
theorem SEO.lend (s : SEO K mg W te fe) : SEO K mg W te (fLendO fe) := fun B ω σ H env Q G z => s B (ωs ω) σ H (frzE env) Q G.lent (by
  unfold fLendO at z
  cases y : fe (frzE env) with
  | bad => rw [y] at z; exact z
  | ex c e' =>
    rw [y] at z
    intro ω' H' C hC ev G'
    obtain ⟨ω2, qu2, G2⟩ := lent_back G ev G'.wf
    exact z ω2 H' C hC qu2.evo G2
  | ok x e' =>
    rw [y] at z
    dsimp only at z
    split at z
    · rename_i hs
      intro ω' H' v ev G' r
      obtain ⟨ω2, ev2, G2, r2⟩ := lent_back2 G ev G'.root G'.wf r hs
      exact z ω2 H' v ev2 G2 r2
    · exact z.elim)
theorem vo_lend (h : VO X W e fe) : VO X W e (fLendO fe) := by
  obtain ⟨t, p, s⟩ := h.ex
  exact ⟨_, p, SEO.lend s⟩
theorem vs_setLcOL {i : Nat} {y : Str} {py spos : Pos} {scope : Scope} {own : List (Str × Nat)} {fi : En → Rs (List PyData)} {g : PyData → En → Option En} {tt : En → Rs Bool} (hc : X.calm = true) (hN : X.N.Nodup) (hi : VI X W q1 tg iter fi) (ok : BlkOk X.N X.env.scope scope own)
    (hg : ∀ (s : Shared) (H : Hp) (C : Addr) (cl : List (Str × Addr)) (fp : List Addr), VG (X.blk s H scope (compEnvC scope cl C X.env) fp) (fun j => decide (j ∉ own.map (·.2))) tg g)
    (ht : ∀ (s : Shared) (H : Hp) (C : Addr) (cl : List (Str × Addr)) (fp : List Addr), VTs (X.blk s H scope (compEnvC scope cl C X.env) fp) W0 q2 ifs tt)
    (he : ∀ (s : Shared) (H : Hp) (C : Addr) (cl : List (Str × Addr)) (fp : List Addr), VO (X.blk s H scope (compEnvC scope cl C X.env) fp) W0 elt fe) (hy : X.N[i]? = some y) (hyl : X.env.scope.names.lookup y = some .local) (hk : kp i = false := by rfl)
    (hsw : swapsWith (.ListComp elt [⟨tg, iter, ifs, 0⟩] scope pos) (some (.Name y py)) spos.line X.env = pure true) (hs : ∀ x, foldedSetIterable iter X.env x = pure x := by intro _; rfl) :
    VS X W kp (.Assign [.Name y py] (.ListComp elt [⟨tg, iter, ifs, 0⟩] scope pos) spos) (fSetO i (fLendO (fLcO fi (own.map (·.2)) g tt fe))) := by
  obtain ⟨wi, pi, se⟩ := lco_seo (W := W) (q2 := q2) (g := g) (tt := tt) (fe := fe) (own := own) hi
  exact ⟨_, ps_setLc (g := gOf X.K (fun j => decide (j ∉ own.map fun x : Str × Nat => x.2)) g) (tt := tOfT X.K X.mg W0 q2 tt) (te := tOfO X.K X.mg W0 fe) hc hN hy hyl hsw pi ok (fun s H C cl fp => (hg s H C cl fp).canon) (fun s H C cl fp => (ht s H C cl fp).canon) (fun s H C cl fp => (he s H C cl fp).canon) hs, ss_setO (SEO.lend se) hk⟩
end
/-! readings -/
section
variable {env : En} {f : En → Rs Vl} {ft : En → Rs Bool} {fo : En → Rs O}
@[simp] theorem fLendV_eq : fLendV f env = match f (frzE env) with
  | .ok (.lf w) _ => if scalW w then .ok (.lf w) env else .bad
  | .ok (.pl _ _) _ => .bad
  | .ex c _ => .ex c env
  | .bad => .bad := rfl
@[simp] theorem fLendT_eq : fLendT ft env = match ft (frzE env) with
  | .ok b _ => .ok b env
  | .ex c _ => .ex c env
  | .bad => .bad := rfl
@[simp] theorem fLendO_eq : fLendO fo env = match fo (frzE env) with
  | .ok o _ => if o.sc then .ok o env else .bad
  | .ex c _ => .ex c env
  | .bad => .bad := rfl
@[simp] theorem frzE_nil : frzE [] = [] := rfl
@[simp] theorem frzE_non {e : En} : frzE (none :: e) = none :: frzE e := rfl
@[simp] theorem frzE_lf {w : PyData} {e : En} : frzE (some (.lf w) :: e) = some (.lf w) :: frzE e := by
  unfold frzE; simp [O.er]
theorem frzE_own {o : O} {w : PyData} {e : En} (h : o.er = some w) : frzE (some o :: e) = some (.lf w) :: frzE e := by
  unfold frzE; simp [h]
end
end MV
set_option Elab.async false
set_option linter.all false
set_option maxRecDepth 100000
set_option maxHeartbeats 4000000
/-! sorted(xs) of triples of whole numbers. -/
namespace MV
open PySem PySem.Spec PyProof.Rows L2
abbrev T3 := Int × Int × Int
def lex3 (p q : T3) : Bool := if p.1 = q.1 then (if p.2.1 = q.2.1 then decide (p.2.2 < q.2.2) else decide (p.2.1 < q.2.1)) else decide (p.1 < q.1)
theorem lex3_iff {p q : T3} : lex3 p q = true ↔ p.1 < q.1 ∨ (p.1 = q.1 ∧ (p.2.1 < q.2.1 ∨ (p.2.1 = q.2.1 ∧ p.2.2 < q.2.2))) := by
  unfold lex3
  by_cases e : p.1 = q.1
  · rw [if_pos e]
    by_cases e2 : p.2.1 = q.2.1
    · rw [if_pos e2, decide_eq_true_eq]; omega
    · rw [if_neg e2, decide_eq_true_eq]; omega
  · rw [if_neg e, decide_eq_true_eq]; omega
theorem lex3_no {p q : T3} : lex3 p q = false ↔ ¬ (p.1 < q.1 ∨ (p.1 = q.1 ∧ (p.2.1 < q.2.1 ∨ (p.2.1 = q.2.1 ∧ p.2.2 < q.2.2)))) := by
  rw [← lex3_iff]
  cases lex3 p q <;> simp
theorem swo_lex3 {α : Type} (k : α → T3) : SrtO.Swo fun v u => lex3 (k v) (k u) := by
  refine ⟨fun x y h => ?_, fun x y z h1 h2 => ?_⟩
  · have a := lex3_iff.mp h
    refine lex3_no.mpr ?_
    omega
  · have a := lex3_no.mp h1
    have b := lex3_no.mp h2
    refine lex3_no.mpr ?_
    omega
def lexle3 (p q : T3) : Bool := !lex3 q p
theorem lexle3_iff {p q : T3} : lexle3 p q = true ↔ p.1 < q.1 ∨ (p.1 = q.1 ∧ (p.2.1 < q.2.1 ∨ (p.2.1 = q.2.1 ∧ p.2.2 ≤ q.2.2))) := by
  unfold lexle3
  cases h : lex3 q p with
  | true => have := lex3_iff.mp h; simp; omega
  | false => have := lex3_no.mp h; simp; omega
def tins (x : T3) : List T3 → List T3
  | [] => [x]
  | y :: ys => if lexle3 x y then x :: y :: ys else y :: tins x ys
def tsort (l : List T3) : List T3 := l.foldr tins []
theorem tins_perm (x : T3) : ∀ l : List T3, (tins x l).Perm (x :: l)
  | [] => .refl _
  | y :: ys => by
    unfold tins
    split
    · exact .refl _
    · exact (List.Perm.cons y (tins_perm x ys)).trans (List.Perm.swap x y ys)
theorem tsort_perm : ∀ l : List T3, (tsort l).Perm l
  | [] => .refl _
  | x :: l => (tins_perm x _).trans (List.Perm.cons x (tsort_perm l))
theorem tins_srt (x : T3) : ∀ {l : List T3}, l.Pairwise (fun a b => lexle3 a b = true) → (tins x l).Pairwise (fun a b => lexle3 a b = true)
  | [], _ => by simp [tins]
  | y :: ys, h => by
    unfold tins
    have h' := List.pairwise_cons.mp h
    split
    · rename_i hxy
      refine List.pairwise_cons.mpr ⟨fun z hz => ?_, h⟩
      rcases List.mem_cons.mp hz with rfl | hz
      · exact hxy
      · have := h'.1 z hz
        rw [lexle3_iff] at *
        omega
    · rename_i hxy
      refine List.pairwise_cons.mpr ⟨fun z hz => ?_, tins_srt x h'.2⟩
      rcases List.mem_cons.mp ((tins_perm x ys).mem_iff.mp hz) with rfl | hz
      · rw [lexle3_iff] at *
        omega
      · exact h'.1 z hz
theorem tsort_srt : ∀ l : List T3, (tsort l).Pairwise (fun a b => lexle3 a b = true)
  | [] => List.Pairwise.nil
  | x :: l => tins_srt x (tsort_srt l)
section
variable {prog : Program} {w : World} {A : Around} {E : Value → Shared → Prop} {s : Shared}
open Srt SrtO
def IsTrip (h : Heap) (v : Value) (x y z : Int) : Prop := ∃ a o t u r n, v = .ref a ∧ h.get? a = some o ∧ o.cls = .type "tuple" ∧ o.data = .seq #[.int x t, .int y u, .int z r] n
theorem IsTrip.keeps {h h' : Heap} {v : Value} {x y z : Int} (p : IsTrip h v x y z) (k : ∀ b o, h.get? b = some o → o.cls = .type "tuple" → h'.get? b = some o) : IsTrip h' v x y z := by
  obtain ⟨a, o, t, u, r, n, e, ho, hc, hd⟩ := p
  exact ⟨a, o, t, u, r, n, e, k _ _ ho hc, hc, hd⟩
theorem firsts3 {h : Heap} : ∀ {vs : List Value}, (∀ v ∈ vs, ∃ x y z, IsTrip h v x y z) → ∃ fs : List Value, PySem.W.KatTups h vs fs ∧ fs.length = vs.length ∧ ∀ f ∈ fs, ∃ x t, f = Value.int x t
  | [], _ => ⟨[], PySem.W.KatTups.nil, rfl, fun _ hm => by simp at hm⟩
  | v :: vs, hp => by
    obtain ⟨fs, h1, h2, h3⟩ := firsts3 (vs := vs) fun v' hm => hp v' (List.mem_cons_of_mem _ hm)
    obtain ⟨x, y, z, a, o, t, u, r, n, e, ho, hc, hd⟩ := hp v (List.mem_cons_self ..)
    subst e
    refine ⟨.int x t :: fs, PySem.W.KatTups.cons ho hc hd rfl h1, by rw [List.length_cons, List.length_cons, h2], fun f hm => ?_⟩
    rcases List.mem_cons.mp hm with rfl | hm
    · exact ⟨x, t, rfl⟩
    · exact h3 f hm
theorem trip_cmp {vs : List Value} {k : Value → T3} (hp : ∀ v ∈ vs, IsTrip s.heap v (k v).1 (k v).2.1 (k v).2.2) : Cmp prog w A s (tuples' true) (fun p => p.1 ∈ vs) (lt2 fun v u => lex3 (k v) (k u)) := by
  intro p q hm hm'
  have h1 := hp _ hm
  have h2 := hp _ hm'
  show wpAny (model prog w) A (keyLt' (tuples' true) p.1 q.1) (fun r s' => s' = s ∧ r = lex3 (k p.1) (k q.1)) (fun _ _ => False) s
  unfold lex3
  generalize (k p.1).1 = x at h1 ⊢
  generalize (k p.1).2.1 = y at h1 ⊢
  generalize (k p.1).2.2 = z at h1 ⊢
  generalize (k q.1).1 = x' at h2 ⊢
  generalize (k q.1).2.1 = y' at h2 ⊢
  generalize (k q.1).2.2 = z' at h2 ⊢
  obtain ⟨a, o, t, u, r, n, e, ho, hc, hd⟩ := h1
  obtain ⟨a', o', t', u', r', n', e', ho', hc', hd'⟩ := h2
  rw [e, e']
  refine PySem.W.kat_lt ho hd ho' hd' ?_
  show PySem.W.KatLex prog w A true (decide (3 < 3)) _ [(.int x t, .int x' t'), (.int y u, .int y' u'), (.int z r, .int z' r')] 0 s
  refine PySem.W.kat_cons (SeqAt.EqAt.int_int x t x' t' prog w _ _ ?_)
  refine PySem.W.kat_go (fun e1 => ?_) (fun e1 => ?_)
  · have ex : x = x' := by simpa using e1
    refine PySem.W.kat_yes (PySem.W.kat_cons (SeqAt.EqAt.int_int y u y' u' prog w _ _ ?_))
    refine PySem.W.kat_go (fun e2 => ?_) (fun e2 => ?_)
    · have ey : y = y' := by simpa using e2
      refine PySem.W.kat_yes (PySem.W.kat_cons (SeqAt.EqAt.int_int z r z' r' prog w _ _ ?_))
      refine PySem.W.kat_go (fun e3 => ?_) (fun e3 => ?_)
      · have ez : z = z' := by simpa using e3
        have e4 : (if x = x' then (if y = y' then decide (z < z') else decide (y < y')) else decide (x < x')) = false := by
          rw [if_pos ex, if_pos ey, ez]
          exact decide_eq_false (Int.lt_irrefl _)
        exact PySem.W.kat_yes (PySem.W.kat_nil ⟨rfl, e4.symm⟩)
      · have e4 : (if x = x' then (if y = y' then decide (z < z') else decide (y < y')) else decide (x < x')) = decide (z < z') := by rw [if_pos ex, if_pos ey]
        refine PySem.W.kat_no (PySem.W.kat_one _ _ (PyProof.Rows.lt_int ?_))
        exact (show s = s ∧ decide (z < z') = (if x = x' then (if y = y' then decide (z < z') else decide (y < y')) else decide (x < x')) from ⟨rfl, e4.symm⟩)
    · have ey : ¬ y = y' := by simpa using e2
      have e4 : (if x = x' then (if y = y' then decide (z < z') else decide (y < y')) else decide (x < x')) = decide (y < y') := by rw [if_pos ex, if_neg ey]
      refine PySem.W.kat_no (PySem.W.kat_one _ _ (PyProof.Rows.lt_int ?_))
      exact (show s = s ∧ decide (y < y') = (if x = x' then (if y = y' then decide (z < z') else decide (y < y')) else decide (x < x')) from ⟨rfl, e4.symm⟩)
  · have ex : ¬ x = x' := by simpa using e1
    have e3 : (if x = x' then (if y = y' then decide (z < z') else decide (y < y')) else decide (x < x')) = decide (x < x') := if_neg ex
    exact PySem.W.kat_no (PyProof.Rows.oneLt_int ⟨rfl, e3.symm⟩)
theorem trips_sortableO {a : Addr} {vs : List Value} {k : Value → T3} (h0 : 0 < vs.length) (hp : ∀ v ∈ vs, IsTrip s.heap v (k v).1 (k v).2.1 (k v).2.2) (ha : ∀ o, s.heap.get? a = some o → o.cls ≠ .type "tuple") : SortableO prog w A s a vs fun v u => lex3 (k v) (k u) := by
  intro h' keep
  have hp' : ∀ v ∈ vs, IsTrip h' v (k v).1 (k v).2.1 (k v).2.2 := fun v hm => (hp v hm).keeps fun b o e c => keep b o (fun z => by subst z; exact ha o e c) e
  obtain ⟨fs, h1, h2, h3⟩ := firsts3 fun v hm => ⟨_, _, _, hp' v hm⟩
  refine ⟨tuples' true, fun Q E hq => ?_, trip_cmp hp'⟩
  refine PySem.W.kat_kind (T := .type "int") h1 (by omega) (fun f hm => ?_) (by rfl) ?_
  · obtain ⟨x, t, rfl⟩ := h3 f hm
    exact PySem.W.Looks.now
  · have e : (Value.type "int" != Value.type "tuple") = true := by first | decide +kernel | rfl | decide
    rw [e]
    exact hq
theorem sorted_tripsO {l : Addr} {vs : List Value} {k : Value → T3} {Q : Value → Shared → Prop} (hl : s.heap.IsList l vs.toArray) (hz : vs.length ≤ sizeLine) (hp : ∀ v ∈ vs, IsTrip s.heap v (k v).1 (k v).2.1 (k v).2.2)
    (h : ∀ (h' : Heap) (d : Addr) (out : List Value), Srtd (fun v u => lex3 (k v) (k u)) out → Stb (fun v u => lex3 (k v) (k u)) out vs → (∀ b o, s.heap.get? b = some o → h'.get? b = some o) → s.heap.objs.size ≤ d → (∃ n, h'.get? d = some (seqObj "list" out.toArray n)) → Q (.ref d) { s with heap := h' }) :
    wpAny (model prog w) A (call (.builtin "sorted") [.ref l]) Q E s := by
  refine sorted_ord (swo_lex3 k) hl hz (fun h2 h₁ a ha kk => ?_) fun out hs hb => ?_
  · refine trips_sortableO (s := { s with heap := h₁ }) (by omega) (fun v hm => (hp v hm).keeps fun b o e _ => (kk b o e).2) fun o e => ?_
    have e' : some o = some (seqObj "list" vs.toArray 0) := e.symm.trans ha
    cases e'
    intro c
    exact absurd (Value.type.inj c) (by decide)
  · exact h _ _ out hs hb (fun b o e => sortedAll_old e) (Nat.le_succ _) (sortedAll_at s.heap vs out.toArray)
end
def ltT (k : V → T3) (v u : V) : Bool := lex3 (k v) (k u)
theorem ltT_swo (k : V → T3) : SrtO.Swo (ltT k) := swo_lex3 k
section
variable {X : Cx} {K : PySem.W.Frag}
/-- sorted(xs) of triples, any tuples that may be read -/
def rSortedT (K : PySem.W.Frag) : List V → Hp → VK → Prop := fun vs H Q => ∃ (a : Addr) (xs : List V) (ps : List T3), vs = [V.ref a] ∧ SqL K H a xs ∧ xs.length = ps.length ∧ (∀ (i : Nat) x p, xs[i]? = some x → ps[i]? = some p → ∃ t, x = V.ref t ∧ SqT K H t [.int p.1, .int p.2.1, .int p.2.2]) ∧
  ∀ ys p, ys.length = ps.length → (∀ (i : Nat) y, ys[i]? = some y → ∃ j : Nat, xs[j]? = some y ∧ ps[j]? = (tsort ps)[i]?) → H p = none → Q (.ref p) (upd H p (.lst ys))
open Classical in
noncomputable def keyO3 (K : PySem.W.Frag) (H : Hp) (v : V) : T3 := if h : ∃ p : T3, ∃ t, v = V.ref t ∧ SqT K H t [.int p.1, .int p.2.1, .int p.2.2] then h.choose else (0, 0, 0)
theorem vals3 {x y z : V} {us : List Value} (r : Vals [x, y, z] us) : ∃ u w' w2, us = [u, w', w2] ∧ RelV x u ∧ RelV y w' ∧ RelV z w2 := by
  cases r with
  | cons r1 r2 =>
    cases r2 with
    | cons r3 r4 =>
      cases r4 with
      | cons r5 r6 => cases r6; exact ⟨_, _, _, rfl, r1, r3, r5⟩
theorem cr_sortedT : CallR X (.builtin "sorted") (rSortedT X.K) := by
  intro pins s σ H vs us Q I r h
  obtain ⟨a, xs, ps, rfl, hs, hlen, hx, q⟩ := h
  obtain ⟨its, rv, hl, hz⟩ := I.list hs
  obtain ⟨u, rfl, ru⟩ := vals1 r
  obtain rfl : u = Value.ref a := ru
  have hk : ∀ (i : Nat) x p, xs[i]? = some x → ps[i]? = some p → keyO3 X.K H x = p := fun i x p h1 h2 => by
    obtain ⟨t, rfl, ht⟩ := hx i x p h1 h2
    have ex : ∃ p : T3, ∃ t', V.ref t = V.ref t' ∧ SqT X.K H t' [.int p.1, .int p.2.1, .int p.2.2] := ⟨p, t, rfl, ht⟩
    unfold keyO3
    rw [dif_pos ex]
    have sp := ex.choose_spec
    revert sp
    generalize ex.choose = c
    intro ⟨t', e, ht'⟩
    have := I.tuple_inj ht ((V.ref.inj e) ▸ ht')
    simp at this
    exact Prod.ext this.1.symm (Prod.ext this.2.1.symm this.2.2.symm)
  have hx' : ∀ x ∈ xs, ∃ t, x = V.ref t ∧ SqT X.K H t [.int (keyO3 X.K H x).1, .int (keyO3 X.K H x).2.1, .int (keyO3 X.K H x).2.2] := fun x m => by
    obtain ⟨i, hi, rfl⟩ := List.mem_iff_getElem.mp m
    have hip : i < ps.length := by omega
    have := hx i xs[i] ps[i] (by simp [hi]) (by simp [hip])
    rw [hk i xs[i] ps[i] (by simp [hi]) (by simp [hip])]
    exact this
  have hmap : xs.map (keyO3 X.K H) = ps := by
    apply List.ext_getElem?
    intro i
    rw [List.getElem?_map]
    cases h1 : xs[i]? with
    | none =>
      have := List.getElem?_eq_none_iff.mp h1
      rw [List.getElem?_eq_none (by omega)]; rfl
    | some x =>
      have hi := (List.getElem?_eq_some_iff.mp h1).1
      have hip : i < ps.length := by omega
      rw [List.getElem?_eq_getElem hip]
      exact congrArg some (hk i x ps[i] h1 (by simp [hip]))
  obtain ⟨e1, e2⟩ := refs_back rv fun x m => by
    obtain ⟨t, e, _⟩ := hx' x m
    exact ⟨t, e⟩
  refine sorted_tripsO (k := fun u => keyO3 X.K H (backV u)) hl.isList (by rw [← rv.length]; exact hz) (fun v hv => ?_) fun h' d out h1 h2 kp hd hn => ?_
  · obtain ⟨t, rfl⟩ := e2 v hv
    have hm : V.ref t ∈ xs := by rw [e1]; exact List.mem_map.mpr ⟨_, hv, rfl⟩
    obtain ⟨t', e, ht⟩ := hx' _ hm
    cases e
    obtain ⟨its2, r2, ⟨o, ho, hc, n, hd⟩, _⟩ := I.tuple ht
    obtain ⟨u1, u2, u3, rfl, ri, rj, rk⟩ := vals3 r2
    obtain ⟨t1, rfl⟩ := ri
    obtain ⟨t2, rfl⟩ := rj
    obtain ⟨t3, rfl⟩ := rk
    exact ⟨t, o, t1, t2, t3, n, rfl, ho, hc, hd⟩
  · have h3 : ∀ u ∈ out, ∃ a, u = Value.ref a := fun u hu => e2 u (h2.perm.mem_iff.mp hu)
    obtain ⟨n, hn⟩ := hn
    have hb : SrtO.Stb (ltT (keyO3 X.K H)) (out.map backV) xs := by
      rw [e1]
      exact SrtO.Stb.map (ltT_swo (keyO3 X.K H)) backV h2
    have hsr : SrtO.Srtd (ltT (keyO3 X.K H)) (out.map backV) := SrtO.srtd_map h1
    have hkey : (out.map backV).map (keyO3 X.K H) = tsort ps := by
      refine perm_srt (le := fun a b => lexle3 a b = true) (fun a b h1 h2 => ?_) (fun a => ?_) ?_ ?_ (tsort_srt ps)
      · rw [lexle3_iff] at h1 h2
        exact Prod.ext (by omega) (Prod.ext (by omega) (by omega))
      · rw [lexle3_iff]; omega
      · refine (hb.perm.map _).trans ?_
        rw [hmap]
        exact (tsort_perm ps).symm
      · rw [List.pairwise_map]
        exact hsr.imp fun {x y} h => by
          unfold lexle3
          rw [show lex3 (keyO3 X.K H y) (keyO3 X.K H x) = false from h]; rfl
    refine ⟨.ref d, upd H d (.lst (out.map backV)), I.laid (t' := s.toks) kp hd ⟨?_, out, n, vals_back h3, hn⟩, rfl, q _ d (by rw [hb.len, hlen]) (fun i y hy => ?_) (I.hok.fresh hd)⟩
    · rw [hb.len]
      exact hz
    · have hm : y ∈ xs := hb.perm.mem_iff.mp (List.mem_of_getElem? hy)
      obtain ⟨j, hj, rfl⟩ := List.mem_iff_getElem.mp hm
      refine ⟨j, by simp [hj], ?_⟩
      have hjp : j < ps.length := by omega
      rw [← hkey, List.getElem?_map, hy]
      rw [List.getElem?_eq_getElem hjp]
      exact congrArg some (hk j xs[j] ps[j] (by simp [hj]) (by simp [hjp])).symm
/-- the triples of a list of triples -/
def wtrips : List PyData → Option (List T3)
  | [] => some []
  | .tuple [.int i, .int j, .int k] :: ws => (wtrips ws).map ((i, j, k) :: ·)
  | _ :: _ => none
def wtrip (p : T3) : PyData := .tuple [.int p.1, .int p.2.1, .int p.2.2]
@[simp] theorem wtrips_map (ps : List T3) : wtrips (ps.map wtrip) = some ps := by
  induction ps with
  | nil => rfl
  | cons p ps ih => rw [List.map_cons]; unfold wtrip wtrips; rw [show wtrips (ps.map fun p => .tuple [.int p.1, .int p.2.1, .int p.2.2]) = some ps from ih]; rfl
theorem wtrips_of : ∀ {ws : List PyData} {ps : List T3}, wtrips ws = some ps → ws = ps.map wtrip
  | [], ps, h => by cases h; rfl
  | w :: ws, ps, h => by
    unfold wtrips at h
    split at h
    · rename_i heq; cases heq
    · rename_i i j k ws' heq
      cases heq
      cases z : wtrips ws with
      | none => rw [z] at h; cases h
      | some ps' => rw [z] at h; cases h; rw [wtrips_of z]; rfl
    · cases h
def gSortT : List Vl → Option PyData
  | [x] => match x.items with
    | some ws => (wtrips ws).map fun ps => .list ((tsort ps).map wtrip)
    | none => none
  | _ => none
theorem cals_sortT : CalS K (rSortedT K) gSortT := by
  intro B ω σ H env vs xs z Q G rv e q
  unfold gSortT at e
  split at e
  · rename_i x
    obtain ⟨v, rfl, r⟩ := rv.one
    split at e
    · rename_i ws hw
      obtain ⟨a, us, rfl, s, rr⟩ := r.items hw
      cases hp : wtrips ws with
      | none => rw [hp] at e; cases e
      | some ps =>
        rw [hp] at e; cases e
        have hws := wtrips_of hp
        subst hws
        have hsq : ∀ (i : Nat) x p, us[i]? = some x → ps[i]? = some p → RW K ω H x (wtrip p) := fun i x p y1 y2 => rr.2 i x _ y1 (by rw [List.getElem?_map, y2]; rfl)
        refine ⟨a, us, ps, rfl, s, by simpa using rr.1, fun i x p y1 y2 => ?_, fun ys p hl hy hp => ?_⟩
        · cases hsq i x p y1 y2 with
          | @tup t vs _ f l g =>
            refine ⟨t, rfl, ?_⟩
            have : vs = [.int p.1, .int p.2.1, .int p.2.2] := by
              match vs, l with
              | [v1, v2, v3], _ =>
                have g1 := g 0 v1 (.int p.1) rfl rfl
                have g2 := g 1 v2 (.int p.2.1) rfl rfl
                have g3 := g 2 v3 (.int p.2.2) rfl rfl
                cases g1; cases g2; cases g3; rfl
            rw [← this]
            exact f.sq
        · refine q ω _ _ (.alloc hp) (G.alloc hp) (RW.newL G hp ⟨by rw [hl, List.length_map, (tsort_perm ps).length_eq], fun i v w y1 y2 => ?_⟩)
          obtain ⟨j, h1, h2⟩ := hy i v y1
          rw [List.getElem?_map, ← h2] at y2
          cases t : ps[j]? with
          | none => rw [t] at y2; cases y2
          | some pp => rw [t] at y2; cases y2; exact hsq j v pp h1 t
    · cases e
  · cases e
end
end MV
set_option linter.all false
set_option maxRecDepth 100000
set_option maxHeartbeats 4000000
namespace MV
open PySem PySem.Spec PyProof.Rows L2 RT
section
variable {X : Cx} {W : WX} {q q1 q2 : Bool} {tg o e a : Expr} {pos : Pos} {f fo fe fa : En → Rs Vl} {K : PySem.W.Frag}
/-! ### [..].index(x) -/
def gIndex (ds : List PyData) (y : Vl) : Option PyData := match y.er with
  | some d => if SeqAt.shaped (.list ds) && SeqAt.shaped d then (ds.findIdx? fun z => PyData.eqv z d).map fun j => .int (j : Nat) else none
  | none => none
def fIndex (fo fe : En → Rs Vl) : En → Rs Vl := fun env => (fo env).bind fun x e => match x with
  | .lf (.list ds) => (fe e).bind fun y e' => match gIndex ds y with
    | some z => .ok (.lf z) e'
    | none => .bad
  | _ => .bad
theorem ve_index {apos cpos : Pos} (hu : X.A.units + 65 < cLine) (ho : VE X W q1 o fo) (he : VE X W q2 e fe) (hse : starEach [e] X.env = (false, eval e X.env) :: starEach [] X.env := by rfl)
    (hpe : ∀ (to : TE) (t : TA), MtR X "list.index" (rIndexD X.K) → PE X o to → PA X [e] t → PE X (.Call (.Attribute o "index" apos) [e] [] cpos) (tBM X.K "list" (rIndexD X.K) to t) := by intro _ _ h0 h1 h2; exact pe_bm PySem.F.plainAttrs_list PySem.F.slot_list_index PySem.F.type_list_index h0 h1 h2) :
    VE X W (q1 && q2) (.Call (.Attribute o "index" apos) [e] [] cpos) (fIndex fo fe) := by
  obtain ⟨to, po, so⟩ := ho.ex
  obtain ⟨te, pe, se⟩ := he.ex
  refine ⟨_, hpe _ _ (mt_indexD hu) po (pa_cons pe pa_nil hse), ⟨fun hq env x e h => ?_, fun B ω σ H env Q G h => ?_⟩⟩
  · obtain ⟨h1, h2⟩ := Bool.and_eq_true_iff.mp hq
    obtain ⟨a, e1, z1, z2⟩ := Rs.bind_st (env := env) h
    split at z2
    · obtain ⟨b, e2, z3, z4⟩ := Rs.bind_st (env := env) z2
      have r1 := so.st h1 _ _ _ z1
      have r2 := se.st h2 _ _ _ z3
      split at z4 <;> cases z4
      rw [r2, r1]
    · cases z2
  · refine so.run B ω σ H env _ G ((EPost.bind h).imp fun x e ω1 H1 _ ev1 qu1 G1 h1 => fun v rv => ?_)
    split at h1
    · rename_i ds hfo
      cases (show RW X.K ω1 H1 v (.list ds) from rv) with
      | @lst a vs _ f l g =>
        refine ⟨Or.inl ⟨rfl, vs, f.sq⟩, ?_⟩
        refine se.run B ω1 σ H1 e _ G1 ((EPost.bind (q1 := q2) (q2 := true) (by rw [Bool.and_true]; exact h1)).imp fun y e' ω2 H2 _ ev2 qu2 G2 h2 => fun u ru => ?_)
        split at h2
        · rename_i z hz
          have rl : RW X.K ω2 H2 (.ref a) (.list ds) := (RW.lst f l g).evo ev2
          unfold gIndex at hz
          split at hz
          · rename_i d hd
            split at hz
            · rename_i hs
              obtain ⟨s1, s2⟩ := Bool.and_eq_true_iff.mp hs
              cases hj : ds.findIdx? fun z => PyData.eqv z d with
              | none => rw [hj] at hz; cases hz
              | some j =>
                rw [hj] at hz
                cases hz
                obtain ⟨hlt, hp, hno⟩ := List.findIdx?_eq_some_iff_getElem.mp hj
                refine ⟨a, u, d, ds, j, ds[j], rfl, rfl, RV.dp (σ := σ) (x := .lf (.list ds)) rl rfl, ru.dp hd, s1, s2, by simp [hlt], hp, fun m z' hm hz' => ?_, h2 ω2 H2 (.refl _ _) (fun _ => .refl _ _) G2 _ (RW.int _)⟩
                obtain ⟨hml, rfl⟩ := List.getElem?_eq_some_iff.mp hz'
                simpa using hno m hm
            · cases hz
          · cases hz
        · exact h2.elim
    · exact h1.elim
/-! ### list(range(n)) -/
def fLRng (f : En → Rs Vl) : En → Rs Vl := fun env => (f env).bind fun x e => match x with
  | .lf (.int n) => if rOk n && decide (n ≤ 16777216) then .ok (.lf (.list (rng 0 n.toNat))) e else .bad
  | _ => .bad
theorem ve_lrng {p p2 pos2 : Pos} (hc : X.calm = true) (hg : Gl X "list") (hm : X.mg "list" = none) (hg2 : Gl X "range") (hm2 : X.mg "range" = none) (ha : VE X W q a fa) (na : starEach [a] X.env = (false, eval a X.env) :: starEach [] X.env := by rfl)
    (ne : starEach [.Call (.Name "range" p2) [a] [] pos2] X.env = (false, eval (.Call (.Name "range" p2) [a] [] pos2) X.env) :: starEach [] X.env := by rfl) : VE X W q (.Call (.Name "list" p) [.Call (.Name "range" p2) [a] [] pos2] [] pos) (fLRng fa) := by
  obtain ⟨ta, pa, sa⟩ := ha.ex
  refine ⟨_, pe_listRg hc hg hm (prg_1 hg2 hm2 pa na) ne, ⟨fun hq env x e z => ?_, fun B ω σ H env Q G z => ?_⟩⟩
  · obtain ⟨a, e1, z1, z2⟩ := Rs.bind_st (env := env) z
    split at z2
    · split at z2 <;> cases z2
      exact sa.st hq _ _ _ z1
    · cases z2
  · refine sa.run B ω σ H env _ G ((EPost.bind (q1 := q) (q2 := true) (by rw [Bool.and_true]; exact z)).imp fun x e ω1 H1 _ ev1 qu1 G1 h1 => fun v rv => ?_)
    split at h1
    · rename_i n hfo
      split at h1
      · rename_i hn
        obtain ⟨n1, n2⟩ := Bool.and_eq_true_iff.mp hn
        have n2 := of_decide_eq_true n2
        cases (show RW X.K ω1 H1 v (.int n) from rv)
        refine ⟨n, rfl, ⟨by omega, by omega, (rOk_le n1).1, (rOk_le n1).2, by omega⟩, fun a ha => ?_⟩
        refine h1 ω1 _ (Quiet.alloc ha).evo (fun _ => .alloc ha) (G1.alloc ha) _ (RW.newL G1 ha ?_)
        refine ⟨by unfold rgV rng; simp, fun i v w y1 y2 => ?_⟩
        unfold rgV at y1
        unfold rng at y2
        rw [List.getElem?_map] at y1 y2
        by_cases hi : i < n.toNat
        · rw [List.getElem?_range (by omega)] at y1
          rw [List.getElem?_range hi] at y2
          cases y1; cases y2
          exact .int _
        · rw [List.getElem?_eq_none (by simpa using hi)] at y2
          cases y2
      · exact h1.elim
    · exact h1.elim
/-! ### reversed(range(n)), reversed(x) -/
def fRevR (f : En → Rs Vl) : En → Rs (List PyData) := fun env => (f env).bind fun x e => match x with
  | .lf (.int n) => if rOk n then .ok (rngD ((n.toNat : Int) - 1) n.toNat) e else .bad
  | _ => .bad
theorem vi_revR {p p2 pos2 : Pos} (hg : Gl X "reversed") (hm : X.mg "reversed" = none) (hg2 : Gl X "range") (hm2 : X.mg "range" = none) (ha : VE X W q a fa) (na : starEach [a] X.env = (false, eval a X.env) :: starEach [] X.env := by rfl)
    (ne : starEach [.Call (.Name "range" p2) [a] [] pos2] X.env = (false, eval (.Call (.Name "range" p2) [a] [] pos2) X.env) :: starEach [] X.env := by rfl) : VI X W q tg (.Call (.Name "reversed" p) [.Call (.Name "range" p2) [a] [] pos2] [] pos) (fRevR fa) := by
  obtain ⟨ta, pa, sa⟩ := ha.ex
  refine ⟨_, pi_revR hg hm (prg_1 hg2 hm2 pa na) ne, ⟨fun hq env x e z => ?_, fun B ω σ H env R G z => ?_⟩⟩
  · obtain ⟨a, e1, z1, z2⟩ := Rs.bind_st (env := env) z
    split at z2
    · split at z2 <;> cases z2
      exact sa.st hq _ _ _ z1
    · cases z2
  · refine sa.run B ω σ H env _ G ((EPost.bind (q1 := q) (q2 := true) (by rw [Bool.and_true]; exact z)).imp fun x e ω1 H1 _ ev1 qu1 G1 h1 => fun v rv => ?_)
    split at h1
    · rename_i n hfo
      split at h1
      · rename_i n1
        cases (show RW X.K ω1 H1 v (.int n) from rv)
        refine ⟨n, rfl, by omega, by omega, (rOk_le n1).1, (rOk_le n1).2, EPost.ok_here G1 h1 _ ?_⟩
        have e : (0 : Int) + (((n - 0).toNat : Nat) : Int) - 1 = (n.toNat : Int) - 1 := by rw [Int.sub_zero]; omega
        rw [e, Int.sub_zero]
        exact items_rngD
      · exact h1.elim
    · exact h1.elim
theorem items_rev {ω : Om} {H : Hp} {a : Addr} {vs : List V} {ws : List PyData} (f : FL K ω H a vs) (r : RWs K ω H vs ws) : Items K ω H (Itv K a vs.length) ws.reverse := fun i ω1 H1 ev wf => by
  have s1 := (f.evoF ev).sq
  refine ⟨fun h => (show vs.length ≤ i by rw [r.1]; simpa using h), fun w hw => ?_⟩
  have hlt : i < ws.length := by simpa using (List.getElem?_eq_some_iff.mp hw).1
  rw [List.getElem?_reverse hlt] at hw
  have hl := r.1
  have hj : vs.length - 1 - i < vs.length := by omega
  have hw : ws[vs.length - 1 - i]? = some w := by rw [hl]; exact hw
  refine ⟨⟨by omega, vs, vs[vs.length - 1 - i], s1, by simp [hj]⟩, fun x H2 hx => ⟨.inl hx.1, ?_⟩⟩
  have := hx.2 vs s1
  rw [hx.1]
  exact (r.2 _ x w this hw).evoF ev
theorem items_revT {ω : Om} {H : Hp} {a : Addr} {vs : List V} {ws : List PyData} (f : FT K ω H a vs) (r : RWs K ω H vs ws) : Items K ω H (ItvT K a vs.length) ws.reverse := fun i ω1 H1 ev wf => by
  have s1 := (f.evoF ev).sq
  refine ⟨fun h => (show vs.length ≤ i by rw [r.1]; simpa using h), fun w hw => ?_⟩
  have hlt : i < ws.length := by simpa using (List.getElem?_eq_some_iff.mp hw).1
  rw [List.getElem?_reverse hlt] at hw
  have hl := r.1
  have hj : vs.length - 1 - i < vs.length := by omega
  have hw : ws[vs.length - 1 - i]? = some w := by rw [hl]; exact hw
  refine ⟨⟨by omega, vs, vs[vs.length - 1 - i], s1, by simp [hj]⟩, fun x H2 hx => ⟨.inl hx.1, ?_⟩⟩
  have := hx.2 vs s1
  rw [hx.1]
  exact (r.2 _ x w this hw).evoF ev
def fRevI (f : En → Rs Vl) : En → Rs (List PyData) := fun env => (f env).bind fun x e => match x with
  | .lf (.list ws) => .ok ws.reverse e
  | .lf (.tuple ws) => .ok ws.reverse e
  | _ => .bad
theorem vi_revA {p : Pos} (hg : Gl X "reversed") (hm : X.mg "reversed" = none) (ha : VE X W q a fa) (na : starEach [a] X.env = (false, eval a X.env) :: starEach [] X.env := by rfl) :
    VI X W q tg (.Call (.Name "reversed" p) [a] [] pos) (fRevI fa) := by
  obtain ⟨ta, pa, sa⟩ := ha.ex
  refine ⟨_, pi_revA hg hm pa na, ⟨fun hq env x e z => ?_, fun B ω σ H env R G z => ?_⟩⟩
  · obtain ⟨a, e1, z1, z2⟩ := Rs.bind_st (env := env) z
    split at z2 <;> cases z2
    · exact sa.st hq _ _ _ z1
    · exact sa.st hq _ _ _ z1
  · refine sa.run B ω σ H env _ G ((EPost.bind (q1 := q) (q2 := true) (by rw [Bool.and_true]; exact z)).imp fun x e ω1 H1 _ ev1 qu1 G1 h1 => fun v rv => ?_)
    split at h1
    · rename_i ws hfo
      cases (show RW X.K ω1 H1 v (.list ws) from rv) with
      | @lst a vs _ f l g => exact ⟨a, vs, rfl, .inl ⟨f.sq, EPost.ok_here G1 h1 _ (items_rev f ⟨l, g⟩)⟩⟩
    · rename_i ws hfo
      cases (show RW X.K ω1 H1 v (.tuple ws) from rv) with
      | @tup a vs _ f l g => exact ⟨a, vs, rfl, .inr ⟨f.sq, EPost.ok_here G1 h1 _ (items_revT f ⟨l, g⟩)⟩⟩
    · exact h1.elim
end
@[simp] theorem fIndex_eq {env : En} {fo fe : En → Rs Vl} : fIndex fo fe env = (fo env).bind fun x e => match x with
  | .lf (.list ds) => (fe e).bind fun y e' => match gIndex ds y with
    | some z => .ok (.lf z) e'
    | none => .bad
  | _ => .bad := rfl
@[simp] theorem fLRng_eq {env : En} {f : En → Rs Vl} : fLRng f env = (f env).bind fun x e => match x with
  | .lf (.int n) => if rOk n && decide (n ≤ 16777216) then .ok (.lf (.list (rng 0 n.toNat))) e else .bad
  | _ => .bad := rfl
@[simp] theorem fRevR_eq {env : En} {f : En → Rs Vl} : fRevR f env = (f env).bind fun x e => match x with
  | .lf (.int n) => if rOk n then .ok (rngD ((n.toNat : Int) - 1) n.toNat) e else .bad
  | _ => .bad := rfl
@[simp] theorem fRevI_eq {env : En} {f : En → Rs Vl} : fRevI f env = (f env).bind fun x e => match x with
  | .lf (.list ws) => .ok ws.reverse e
  | .lf (.tuple ws) => .ok ws.reverse e
  | _ => .bad := rfl
end MV
set_option Elab.async false
set_option linter.all false
set_option maxRecDepth 100000
set_option maxHeartbeats 4000000
namespace GG
open PySem PySem.Spec PyProof.Rows L2 MV
def C_cells_under_0 : En → Rs Vl :=
 fMk .tuple (fCons true (fBin true gAdd (fVar 1) (fVar 5)) (fCons true (fBin true gAdd (fVar 2) (fVar 6)) (fNil)))
abbrev N_cells_under : List Str := ["foot", "x", "y", "wide", "deep", "dx", "dy"]
def B_cells_under : En → Rs Fl :=
 fRet (fLc (fIt (fVar 0)) [5, 6] (tgAny 2 (tgCons (tgName 5) (tgCons (tgName 6) (tgNil)))) (fAndT (fTst (fChain true true gLe gLt (fC (.int 0)) (fBin true gAdd (fVar 1) (fVar 5)) (fVar 3))) (fTst (fChain true true gLe gLt (fC (.int 0)) (fBin true gAdd (fVar 2) (fVar 6)) (fVar 4)))) C_cells_under_0)
def F_cells_under : List O → Rs O := fFun 5 7 (fun j => [0, 1, 2, 3, 4].contains j) B_cells_under
def C_places_between_1 : En → Rs Vl :=
 fMk .tuple (fCons true (fVar 0) (fCons true (fVar 4) (fNil)))
def C_places_between_0 : En → Rs Vl :=
 fMk .tuple (fCons true (fVar 4) (fCons true (fVar 1) (fNil)))
abbrev N_places_between : List Str := ["x", "y", "axis", "to", "at"]
def B_places_between : En → Rs Fl :=
 fSeq (fIf (fTst (fBin true gEq (fVar 2) (fC (.str "x"))))
 (fRet (fLc (fRng2 (fCons true (fCB gMin (fCons true (fVar 0) (fCons true (fVar 3) (fNil)))) (fCons true (fBin true gAdd (fCB gMax (fCons true (fVar 0) (fCons true (fVar 3) (fNil)))) (fC (.int 1))) (fNil)))) [4] (tgName 4) (fYes) C_places_between_0))
 (fNext))
 (fSeq (fIf (fTst (fBin true gEq (fVar 2) (fC (.str "y"))))
 (fRet (fLc (fRng2 (fCons true (fCB gMin (fCons true (fVar 1) (fCons true (fVar 3) (fNil)))) (fCons true (fBin true gAdd (fCB gMax (fCons true (fVar 1) (fCons true (fVar 3) (fNil)))) (fC (.int 1))) (fNil)))) [4] (tgName 4) (fYes) C_places_between_1))
 (fNext))
 (fRet (fMk .list (fCons true (fMk .tuple (fCons true (fVar 0) (fCons true (fVar 1) (fNil)))) (fNil)))))
def F_places_between : List O → Rs O := fFun 4 5 (fun j => [0, 1, 2, 3].contains j) B_places_between
abbrev N_Carver___init__ : List Str := ["self", "shelf", "wide", "deep"]
def B_Carver___init__ : En → Rs Fl :=
 fSeq (fPutF "Carver" 0 "shelf" (fCB gListOf (fCons true (fVar 1) (fNil))) (fVar 0))
 (fSeq (fPutF "Carver" 1 "wide" (fVar 2) (fVar 0))
 (fSeq (fPutF "Carver" 2 "deep" (fVar 3) (fVar 0))
 (fSeq (fPutF "Carver" 3 "cutter" (fC .none) (fVar 0))
 (fSeq (fPutF "Carver" 4 "x" (fC (.int 0)) (fVar 0))
 (fSeq (fPutF "Carver" 5 "y" (fC (.int 0)) (fVar 0))
 (fPutF "Carver" 6 "z" (fC (.int 1000)) (fVar 0)))))))
def F_Carver___init__ : List O → Rs O := fFun 4 4 (fun j => [0, 1, 2, 3].contains j) B_Carver___init__
abbrev N_Carver_hold_fault : List Str := ["self", "number"]
def B_Carver_hold_fault : En → Rs Fl :=
 fSeq (fIf (fOrT (fTst (fBin true gLt (fVar 1) (fC (.int 0)))) (fTst (fBin true gGe (fVar 1) (fCB gLen (fCons true (fUnV (gFld 0 "shelf") (fVar 0)) (fNil))))))
 (fRet (fMk .tuple (fCons true (fC (.str "shelf")) (fNil))))
 (fNext))
 (fSeq (fIf (fTst (fBin true gNe (fUnV (gFld 6 "z") (fVar 0)) (fC (.int 1000))))
 (fRet (fMk .tuple (fCons true (fC (.str "low")) (fNil))))
 (fNext))
 (fRet (fC .none)))
def F_Carver_hold_fault : List O → Rs O := fFun 2 2 (fun j => [0, 1].contains j) B_Carver_hold_fault
abbrev N_Carver_move_fault : List Str := ["self", "axis", "to", "most"]
def B_Carver_move_fault : En → Rs Fl :=
 fSeq (fIf (fTst (fBin true gIsN (fUnV (gFld 3 "cutter") (fVar 0)) (fC .none)))
 (fRet (fMk .tuple (fCons true (fC (.str "bare")) (fNil))))
 (fNext))
 (fSeq (fSet 3 (fC (.int 1000)))
 (fSeq (fIf (fTst (fBin true gEq (fVar 1) (fC (.str "x"))))
 (fSet 3 (fBin true gSub (fUnV (gFld 1 "wide") (fVar 0)) (fC (.int 1))))
 (fNext))
 (fSeq (fIf (fTst (fBin true gEq (fVar 1) (fC (.str "y"))))
 (fSet 3 (fBin true gSub (fUnV (gFld 2 "deep") (fVar 0)) (fC (.int 1))))
 (fNext))
 (fSeq (fIf (fOrT (fTst (fBin true gLt (fVar 2) (fC (.int 0)))) (fTst (fBin true gGt (fVar 2) (fVar 3))))
 (fRet (fMk .tuple (fCons true (fC (.str "out")) (fNil))))
 (fNext))
 (fRet (fC .none))))))
def F_Carver_move_fault : List O → Rs O := fFun 3 4 (fun j => [0, 1, 2].contains j) B_Carver_move_fault
abbrev N_Carver_gone : List Str := ["self", "axis", "to"]
def B_Carver_gone : En → Rs Fl :=
 fIf (fTst (fBin true gEq (fVar 1) (fC (.str "x"))))
 (fPutF "Carver" 4 "x" (fVar 2) (fVar 0))
 (fIf (fTst (fBin true gEq (fVar 1) (fC (.str "y"))))
 (fPutF "Carver" 5 "y" (fVar 2) (fVar 0))
 (fPutF "Carver" 6 "z" (fVar 2) (fVar 0)))
def F_Carver_gone : List O → Rs O := fFun 3 3 (fun j => [0, 1, 2].contains j) B_Carver_gone
def L_met_0 : En → Rs Fl :=
 fIf (fTst (fBin true gGt (fBinV true gIx (fBinV true gIx (fVar 0) (fVar 4)) (fVar 3)) (fVar 2)))
 (fRet (fC (.bool true)))
 (fNext)
abbrev N_met : List Str := ["heights", "cells", "most", "x", "y"]
def B_met : En → Rs Fl :=
 fSeq (fFor (fIt (fVar 1)) (tgAny 2 (tgCons (tgName 3) (tgCons (tgName 4) (tgNil)))) L_met_0)
 (fRet (fC (.bool false)))
def F_met : List O → Rs O := fFun 3 5 (fun j => [0, 1, 2].contains j) B_met
def L_cut_down_0 : En → Rs Fl :=
 fIf (fTst (fBin true gGt (fBinV true gIx (fBinV true gIx (fVar 0) (fVar 5)) (fVar 4)) (fVar 2)))
 (fSeq (fAug 3 gAug (fBin true gSub (fBinV true gIx (fBinV true gIx (fVar 0) (fVar 5)) (fVar 4)) (fVar 2)))
 (fPut (fVar 2) (fBinV true gIx (fVar 0) (fVar 5)) (fVar 4)))
 (fNext)
abbrev N_cut_down : List Str := ["heights", "cells", "low", "taken", "x", "y"]
def B_cut_down : En → Rs Fl :=
 fSeq (fSet 3 (fC (.int 0)))
 (fSeq (fFor (fIt (fVar 1)) (tgAny 2 (tgCons (tgName 4) (tgCons (tgName 5) (tgNil)))) L_cut_down_0)
 (fRet (fVar 3)))
def F_cut_down : List O → Rs O := fFun 3 6 (fun j => [0, 1, 2].contains j) B_cut_down
abbrev N__law_cell_at : List Str := ["script", "k"]
def B__law_cell_at : En → Rs Fl :=
 fSeq (fIf (fTst (fBin true gLt (fVar 1) (fCB gLen (fCons true (fVar 0) (fNil)))))
 (fRet (fBinV true gIx (fVar 0) (fVar 1)))
 (fNext))
 (fRet (fC (.int 0)))
def F__law_cell_at : List O → Rs O := fFun 2 2 (fun j => [0, 1].contains j) B__law_cell_at
abbrev N__law_mixed : List Str := ["cell", "k", "found"]
def B__law_mixed : En → Rs Fl :=
 fSeq (fSet 2 (fBin true gMod (fBin true gAdd (fBin true gAdd (fBin true gMod (fVar 0) (fC (.int 2147483629))) (fBin true gMul (fC (.int 101)) (fVar 1))) (fC (.int 7))) (fC (.int 2147483629))))
 (fSeq (fSet 2 (fBin true gAdd (fBin true gMod (fBin true gMul (fVar 2) (fVar 2)) (fC (.int 2147483587))) (fBin true gDiv (fVar 2) (fC (.int 5)))))
 (fRet (fBin true gMod (fBin true gMul (fVar 2) (fC (.int 48271))) (fC (.int 2147483647)))))
def F__law_mixed : List O → Rs O := fFun 2 3 (fun j => [0, 1].contains j) B__law_mixed
def L__law_cutter_0 : En → Rs Fl :=
 fSeq (fSet 3 (fMk .tuple (fCons true (fBin true gSub (fBin true gMod (fVar 2) (fC (.int 5))) (fC (.int 2))) (fCons true (fBin true gSub (fBin true gMod (fBin true gDiv (fVar 2) (fC (.int 5))) (fC (.int 5))) (fC (.int 2))) (fNil)))))
 (fIf (fTst (fBin true (gIn true) (fVar 3) (fVar 1)))
 (fApp 1 (fVar 3))
 (fNext))
abbrev N__law_cutter : List Str := ["numbers", "some", "number", "one"]
def B__law_cutter : En → Rs Fl :=
 fSeq (fSetO 1 (fOLst (fCons true (fMk .tuple (fCons true (fC (.int 0)) (fCons true (fC (.int 0)) (fNil)))) (fNil))))
 (fSeq (fFor (fIt (fSl true true (fVar 0) (fPart (fC (.int 2))) (fPart (fBin true gAdd (fC (.int 2)) (fBin true gMod (fBinV true gIx (fVar 0) (fC (.int 0))) (fC (.int 6))))))) (tgName 2) L__law_cutter_0)
 (fRet (fMk .tuple (fCons true (fFrz 1) (fCons true (fBin true gAdd (fC (.int 1)) (fBin true gMod (fBin true gDiv (fBinV true gIx (fVar 0) (fC (.int 1))) (fC (.int 2))) (fBinV true gIx (fMk .list (fCons true (fC (.int 9)) (fCons true (fC (.int 1000)) (fNil)))) (fBin true gMod (fBinV true gIx (fVar 0) (fC (.int 1))) (fC (.int 2)))))) (fNil))))))
def F__law_cutter : List O → Rs O := fFun 1 4 (fun j => [0].contains j) B__law_cutter
def L__law_under_0 : En → Rs Fl :=
 fIf (fAndT (fTst (fChain true true gLe gLt (fC (.int 0)) (fBin true gAdd (fVar 2) (fVar 5)) (fCB gLen (fCons true (fBinV true gIx (fVar 0) (fC (.int 0))) (fNil))))) (fTst (fChain true true gLe gLt (fC (.int 0)) (fBin true gAdd (fVar 3) (fVar 6)) (fCB gLen (fCons true (fVar 0) (fNil))))))
 (fApp 4 (fMk .tuple (fCons true (fBin true gAdd (fVar 2) (fVar 5)) (fCons true (fBin true gAdd (fVar 3) (fVar 6)) (fNil)))))
 (fNext)
abbrev N__law_under : List Str := ["bed", "foot", "x", "y", "found", "dx", "dy"]
def B__law_under : En → Rs Fl :=
 fSeq (fSetO 4 (fOLst (fNil)))
 (fSeq (fFor (fIt (fVar 1)) (tgAny 2 (tgCons (tgName 5) (tgCons (tgName 6) (tgNil)))) L__law_under_0)
 (fRet (fFrz 4)))
def F__law_under : List O → Rs O := fFun 4 7 (fun j => [0, 1, 2, 3].contains j) B__law_under
def C__law_way_1 : En → Rs Vl :=
 fMk .tuple (fCons true (fVar 3) (fCons true (fVar 6) (fNil)))
def C__law_way_0 : En → Rs Vl :=
 fMk .tuple (fCons true (fVar 6) (fCons true (fVar 4) (fNil)))
abbrev N__law_way : List Str := ["place", "axis", "to", "x", "y", "z", "here"]
def B__law_way : En → Rs Fl :=
 fSeq (fAsg (tgAny 3 (tgCons (tgName 3) (tgCons (tgName 4) (tgCons (tgName 5) (tgNil))))) (fVar 0))
 (fSeq (fIf (fTst (fBin true gEq (fVar 1) (fC (.str "z"))))
 (fRet (fMk .list (fCons true (fMk .tuple (fCons true (fVar 3) (fCons true (fVar 4) (fNil)))) (fNil))))
 (fNext))
 (fSeq (fIf (fTst (fBin true gEq (fVar 1) (fC (.str "x"))))
 (fRet (fLc (fRng2 (fCons true (fCB gMin (fCons true (fVar 3) (fCons true (fVar 2) (fNil)))) (fCons true (fBin true gAdd (fCB gMax (fCons true (fVar 3) (fCons true (fVar 2) (fNil)))) (fC (.int 1))) (fNil)))) [6] (tgName 6) (fYes) C__law_way_0))
 (fNext))
 (fRet (fLc (fRng2 (fCons true (fCB gMin (fCons true (fVar 4) (fCons true (fVar 2) (fNil)))) (fCons true (fBin true gAdd (fCB gMax (fCons true (fVar 4) (fCons true (fVar 2) (fNil)))) (fC (.int 1))) (fNil)))) [6] (tgName 6) (fYes) C__law_way_1))))
def F__law_way : List O → Rs O := fFun 3 7 (fun j => [0, 1, 2].contains j) B__law_way
def L__law_within_1 : En → Rs Fl :=
 fSet 2 (fBin true gAdd (fVar 2) (fC (.int 1)))
noncomputable def L__law_within_0 : En → Rs Fl :=
 fSeq (fWhile (fAndT (fTst (fBin true gLt (fVar 2) (fCB gLen (fCons true (fVar 1) (fNil))))) (fTst (fBin true gNe (fBinV true gIx (fVar 1) (fVar 2)) (fVar 3)))) L__law_within_1)
 (fSeq (fIf (fTst (fBin true gEq (fVar 2) (fCB gLen (fCons true (fVar 1) (fNil)))))
 (fRet (fC (.bool false)))
 (fNext))
 (fSet 2 (fBin true gAdd (fVar 2) (fC (.int 1)))))
abbrev N__law_within : List Str := ["some", "moves", "at", "move"]
noncomputable def B__law_within : En → Rs Fl :=
 fSeq (fSet 2 (fC (.int 0)))
 (fSeq (fFor (fIt (fVar 0)) (tgName 3) L__law_within_0)
 (fRet (fC (.bool true))))
noncomputable def F__law_within : List O → Rs O := fFun 2 4 (fun j => [0, 1].contains j) B__law_within
def L__law_first_1 : En → Rs Fl :=
 fIf (fTst (fBin true gNe (fBinV true gIx (fBinV true gIx (fVar 0) (fVar 2)) (fVar 3)) (fBinV true gIx (fBinV true gIx (fVar 1) (fVar 2)) (fVar 3))))
 (fRet (fMk .tuple (fCons true (fVar 3) (fCons true (fVar 2) (fCons true (fBinV true gIx (fBinV true gIx (fVar 0) (fVar 2)) (fVar 3)) (fCons true (fBinV true gIx (fBinV true gIx (fVar 1) (fVar 2)) (fVar 3)) (fNil)))))))
 (fNext)
def L__law_first_0 : En → Rs Fl :=
 fFor (fRng1 (fCons true (fCB gLen (fCons true (fBinV true gIx (fVar 0) (fC (.int 0))) (fNil))) (fNil))) (tgName 3) L__law_first_1
abbrev N__law_first : List Str := ["one", "other", "y", "x"]
def B__law_first : En → Rs Fl :=
 fSeq (fFor (fRng1 (fCons true (fCB gLen (fCons true (fVar 0) (fNil))) (fNil))) (tgName 2) L__law_first_0)
 (fRet (fC .none))
def F__law_first : List O → Rs O := fFun 2 4 (fun j => [0, 1].contains j) B__law_first
def L_Carver_swept_1 : En → Rs Fl :=
 fDput (fC (.bool true)) (fVar 3) (fVar 6)
def L_Carver_swept_0 : En → Rs Fl :=
 fFor (fIt (fCallQ F_cells_under (aVal (fBinV true gIx (fUnV (gFld 3 "cutter") (fVar 0)) (fC (.int 0))) (aVal (fVar 4) (aVal (fVar 5) (aVal (fUnV (gFld 1 "wide") (fVar 0)) (aVal (fUnV (gFld 2 "deep") (fVar 0)) (aNil)))))))) (tgName 6) L_Carver_swept_1
abbrev N_Carver_swept : List Str := ["self", "axis", "to", "found", "x", "y", "cell", "low"]
def B_Carver_swept : En → Rs Fl :=
 fSeq (fSetO 3 (fODcT))
 (fSeq (fFor (fIt (fCallQ F_places_between (aVal (fUnV (gFld 4 "x") (fVar 0)) (aVal (fUnV (gFld 5 "y") (fVar 0)) (aVal (fVar 1) (aVal (fVar 2) (aNil))))))) (tgAny 2 (tgCons (tgName 4) (tgCons (tgName 5) (tgNil)))) L_Carver_swept_0)
 (fSeq (fSet 7 (fUnV (gFld 6 "z") (fVar 0)))
 (fSeq (fIf (fTst (fBin true gEq (fVar 1) (fC (.str "z"))))
 (fSet 7 (fCB gMin (fCons true (fUnV (gFld 6 "z") (fVar 0)) (fCons true (fVar 2) (fNil)))))
 (fNext))
 (fRet (fMk .tuple (fCons true (fCB gListT (fCons true (fVar 3) (fNil))) (fCons true (fVar 7) (fNil))))))))
def F_Carver_swept : List O → Rs O := fFun 3 8 (fun j => [0, 1, 2].contains j) B_Carver_swept
def L__law_numbers_0 : En → Rs Fl :=
 fIf (fTst (fBin true gEq (fBin true gMod (fCallQ F__law_cell_at (aVal (fVar 0) (aVal (fC (.int 0)) (aNil)))) (fC (.int 2))) (fC (.int 0))))
 (fSeq (fApp 4 (fBin true gMod (fVar 3) (fC (.int 1009))))
 (fSet 3 (fBin true gDiv (fVar 3) (fC (.int 1009)))))
 (fApp 4 (fCallQ F__law_mixed (aVal (fCallQ F__law_cell_at (aVal (fVar 0) (aVal (fBin true gMod (fBin true gAdd (fVar 1) (fVar 5)) (fCB gMax (fCons true (fC (.int 1)) (fCons true (fCB gMin (fCons true (fC (.int 63)) (fCons true (fCB gLen (fCons true (fVar 0) (fNil))) (fNil)))) (fNil))))) (aNil)))) (aVal (fBin true gAdd (fBin true gMul (fC (.int 60)) (fVar 1)) (fVar 5)) (aNil)))))
abbrev N__law_numbers : List Str := ["script", "k", "many", "cell", "found", "j"]
def B__law_numbers : En → Rs Fl :=
 fSeq (fSet 3 (fCallQ F__law_cell_at (aVal (fVar 0) (aVal (fVar 1) (aNil)))))
 (fSeq (fSetO 4 (fOLst (fNil)))
 (fSeq (fFor (fRng1 (fCons true (fVar 2) (fNil))) (tgName 5) L__law_numbers_0)
 (fRet (fFrz 4))))
def F__law_numbers : List O → Rs O := fFun 3 6 (fun j => [0, 1, 2].contains j) B__law_numbers
abbrev N__law_number : List Str := ["script", "k"]
def B__law_number : En → Rs Fl :=
 fSeq (fIf (fTst (fBin true gEq (fBin true gMod (fCallQ F__law_cell_at (aVal (fVar 0) (aVal (fC (.int 0)) (aNil)))) (fC (.int 2))) (fC (.int 0))))
 (fRet (fBinV true gIx (fVar 0) (fVar 1)))
 (fNext))
 (fRet (fCallQ F__law_mixed (aVal (fBinV true gIx (fVar 0) (fVar 1)) (aVal (fBin true gAdd (fC (.int 300)) (fVar 1)) (aNil)))))
def F__law_number : List O → Rs O := fFun 2 2 (fun j => [0, 1].contains j) B__law_number
def L__law_done_2 : En → Rs Fl :=
 fSeq (fAug 14 gAug (fCB gMax (fCons true (fC (.int 0)) (fCons true (fBin true gSub (fBinV true gIx (fBinV true gIx (fVar 0) (fVar 11)) (fVar 10)) (fVar 8)) (fNil)))))
 (fPut (fCB gMin (fCons true (fBinV true gIx (fBinV true gIx (fVar 0) (fVar 11)) (fVar 10)) (fCons true (fVar 8) (fNil)))) (fBinV true gIx (fVar 0) (fVar 11)) (fVar 10))
def L__law_done_1 : En → Rs Fl :=
 fDput (fBinV true gIx (fBinV true gIx (fVar 0) (fBinV true gIx (fVar 12) (fC (.int 1)))) (fBinV true gIx (fVar 12) (fC (.int 0)))) (fVar 9) (fVar 12)
def L__law_done_0 : En → Rs Fl :=
 fFor (fIt (fCallQ F__law_under (aMv 0 (aVal (fBinV true gIx (fBinV true gIx (fVar 1) (fBinV true gIx (fVar 2) (fC (.int 0)))) (fC (.int 0))) (aVal (fVar 10) (aVal (fVar 11) (aNil))))))) (tgName 12) L__law_done_1
abbrev N__law_done : List Str := ["bed", "shelf", "held", "move", "kind", "axis", "to", "at", "low", "cells", "x", "y", "cell", "high", "taken"]
def B__law_done : En → Rs Fl :=
 fSeq (fIf (fTst (fBin true gEq (fBinV true gIx (fVar 3) (fC (.int 0))) (fC (.str "hold"))))
 (fSeq (fIf (fOrT (fTst (fBin true gLt (fBinV true gIx (fVar 3) (fC (.int 1))) (fC (.int 0)))) (fTst (fBin true gGe (fBinV true gIx (fVar 3) (fC (.int 1))) (fCB gLen (fCons true (fVar 1) (fNil))))))
 (fRet (fC (.str "shelf")))
 (fNext))
 (fSeq (fIf (fTst (fBin true gNe (fBinV true gIx (fBinV true gIx (fVar 2) (fC (.int 1))) (fC (.int 2))) (fC (.int 1000))))
 (fRet (fC (.str "low")))
 (fNext))
 (fSeq (fPut (fBinV true gIx (fVar 3) (fC (.int 1))) (fVar 2) (fC (.int 0)))
 (fRet (fC (.int 0))))))
 (fNext))
 (fSeq (fIf (fTst (fBin true gIsN (fBinV true gIx (fVar 2) (fC (.int 0))) (fC .none)))
 (fRet (fC (.str "bare")))
 (fNext))
 (fSeq (fAsg (tgAny 3 (tgCons (tgName 4) (tgCons (tgName 5) (tgCons (tgName 6) (tgNil))))) (fVar 3))
 (fSeq (fSet 7 (fIndex (fMk .list (fCons true (fC (.str "x")) (fCons true (fC (.str "y")) (fCons true (fC (.str "z")) (fNil))))) (fVar 5)))
 (fSeq (fIf (fOrT (fTst (fBin true gLt (fVar 6) (fC (.int 0)))) (fTst (fBin true gGt (fVar 6) (fBinV true gIx (fMk .list (fCons true (fBin true gSub (fCB gLen (fCons true (fBinV true gIx (fVar 0) (fC (.int 0))) (fNil))) (fC (.int 1))) (fCons true (fBin true gSub (fCB gLen (fCons true (fVar 0) (fNil))) (fC (.int 1))) (fCons true (fC (.int 1000)) (fNil))))) (fVar 7)))))
 (fRet (fC (.str "out")))
 (fNext))
 (fSeq (fSet 8 (fBinV true gIx (fBinV true gIx (fVar 2) (fC (.int 1))) (fC (.int 2))))
 (fSeq (fIf (fTst (fBin true gEq (fVar 5) (fC (.str "z"))))
 (fSet 8 (fCB gMin (fCons true (fVar 8) (fCons true (fVar 6) (fNil)))))
 (fNext))
 (fSeq (fSetO 9 (fODcT))
 (fSeq (fFor (fIt (fCallQ F__law_way (aVal (fBinV true gIx (fVar 2) (fC (.int 1))) (aVal (fVar 5) (aVal (fVar 6) (aNil)))))) (tgAny 2 (tgCons (tgName 10) (tgCons (tgName 11) (tgNil)))) L__law_done_0)
 (fSeq (fSet 13 (fMaxD (fVar 9)))
 (fSeq (fIf (fAndT (fTst (fBin true gEq (fVar 4) (fC (.str "fast")))) (fTst (fBin true gGt (fVar 13) (fVar 8))))
 (fRet (fC (.str "crash")))
 (fNext))
 (fSeq (fIf (fAndT (fTst (fBin true gEq (fVar 4) (fC (.str "slow")))) (fTst (fBin true gGt (fVar 13) (fBin true gAdd (fVar 8) (fBinV true gIx (fBinV true gIx (fVar 1) (fBinV true gIx (fVar 2) (fC (.int 0)))) (fC (.int 1)))))))
 (fRet (fC (.str "bite")))
 (fNext))
 (fSeq (fSet 14 (fC (.int 0)))
 (fSeq (fForD 9 (tgAny 2 (tgCons (tgName 10) (tgCons (tgName 11) (tgNil)))) L__law_done_2)
 (fSeq (fPut (fBin true gCatT (fBin true gCatT (fSl true true (fBinV true gIx (fVar 2) (fC (.int 1))) (fNoPart) (fPart (fVar 7))) (fMk .tuple (fCons true (fVar 6) (fNil)))) (fSl true true (fBinV true gIx (fVar 2) (fC (.int 1))) (fPart (fBin true gAdd (fVar 7) (fC (.int 1)))) (fNoPart))) (fVar 2) (fC (.int 1)))
 (fRet (fVar 14))))))))))))))))
def F__law_done : List O → Rs O := fFun 4 15 (fun j => [0, 1, 2, 3].contains j) B__law_done
abbrev N_done_move : List Str := ["carver", "heights", "move", "fault", "word", "axis", "to", "cells", "low", "taken"]
def B_done_move : En → Rs Fl :=
 fSeq (fIf (fTst (fBin true gEq (fBinV true gIx (fVar 2) (fC (.int 0))) (fC (.str "hold"))))
 (fSeq (fSet 3 (fLf (fMeth "Carver" 0 F_Carver_hold_fault (aVal (fBinV true gIx (fVar 2) (fC (.int 1))) (aNil)))))
 (fSeq (fIf (fTst (fBin true gIsN (fVar 3) (fC .none)))
 (fPutF "Carver" 3 "cutter" (fBinV true gIx (fUnV (gFld 0 "shelf") (fVar 0)) (fBinV true gIx (fVar 2) (fC (.int 1)))) (fVar 0))
 (fNext))
 (fRet (fMk .tuple (fCons true (fC (.int 0)) (fCons true (fVar 3) (fNil)))))))
 (fNext))
 (fSeq (fAsg (tgAny 3 (tgCons (tgName 4) (tgCons (tgName 5) (tgCons (tgName 6) (tgNil))))) (fVar 2))
 (fSeq (fSet 3 (fLf (fMeth "Carver" 0 F_Carver_move_fault (aVal (fVar 5) (aVal (fVar 6) (aNil))))))
 (fSeq (fIf (fTst (fBin true gNotN (fVar 3) (fC .none)))
 (fRet (fMk .tuple (fCons true (fC (.int 0)) (fCons true (fVar 3) (fNil)))))
 (fNext))
 (fSeq (fAsg (tgAny 2 (tgCons (tgName 7) (tgCons (tgName 8) (tgNil)))) (fLf (fMeth "Carver" 0 F_Carver_swept (aVal (fVar 5) (aVal (fVar 6) (aNil))))))
 (fSeq (fIf (fAndT (fTst (fBin true gEq (fVar 4) (fC (.str "fast")))) (fTru (fCallB 3 F_met (fCons true (fVar 1) (fCons true (fVar 7) (fCons true (fVar 8) (fNil)))))))
 (fRet (fMk .tuple (fCons true (fC (.int 0)) (fCons true (fMk .tuple (fCons true (fC (.str "crash")) (fNil))) (fNil)))))
 (fNext))
 (fSeq (fIf (fAndT (fTst (fBin true gEq (fVar 4) (fC (.str "slow")))) (fTru (fCallB 3 F_met (fCons true (fVar 1) (fCons true (fVar 7) (fCons true (fBin true gAdd (fVar 8) (fBinV true gIx (fUnV (gFld 3 "cutter") (fVar 0)) (fC (.int 1)))) (fNil)))))))
 (fRet (fMk .tuple (fCons true (fC (.int 0)) (fCons true (fMk .tuple (fCons true (fC (.str "bite")) (fNil))) (fNil)))))
 (fNext))
 (fSeq (fSet 9 (fC (.int 0)))
 (fSeq (fIf (fTst (fBin true gEq (fVar 4) (fC (.str "slow"))))
 (fSet 9 (fCallQ F_cut_down (aMv 1 (aVal (fVar 7) (aVal (fVar 8) (aNil))))))
 (fNext))
 (fSeq (fDrop (fLf (fMeth "Carver" 0 F_Carver_gone (aVal (fVar 5) (aVal (fVar 6) (aNil))))))
 (fRet (fMk .tuple (fCons true (fVar 9) (fCons true (fC .none) (fNil))))))))))))))
def F_done_move : List O → Rs O := fFun 3 10 (fun j => [0, 1, 2].contains j) B_done_move
def C__law_bed_1 : En → Rs Vl :=
 fBin true gMod (fBinV true gIx (fVar 4) (fBin true gAdd (fBin true gMul (fVar 5) (fVar 2)) (fVar 6))) (fVar 3)
def C__law_bed_0 : En → Rs Vl :=
 fLc (fRng1 (fCons true (fVar 2) (fNil))) [6] (tgName 6) (fYes) C__law_bed_1
abbrev N__law_bed : List Str := ["script", "first", "width", "high", "numbers", "y", "x"]
def B__law_bed : En → Rs Fl :=
 fSeq (fSet 1 (fBin true gDiv (fCallQ F__law_cell_at (aVal (fVar 0) (aVal (fC (.int 0)) (aNil)))) (fC (.int 2))))
 (fSeq (fSet 2 (fBin true gAdd (fC (.int 1)) (fBin true gMod (fVar 1) (fC (.int 6)))))
 (fSeq (fSet 3 (fBinV true gIx (fMk .list (fCons true (fC (.int 9)) (fCons true (fC (.int 40)) (fCons true (fC (.int 1001)) (fNil))))) (fBin true gMod (fBin true gDiv (fVar 1) (fC (.int 30))) (fC (.int 3)))))
 (fSeq (fSet 4 (fCallQ F__law_numbers (aVal (fVar 0) (aVal (fC (.int 1)) (aVal (fC (.int 30)) (aNil))))))
 (fRet (fLc (fRng1 (fCons true (fBin true gAdd (fC (.int 1)) (fBin true gMod (fBin true gDiv (fVar 1) (fC (.int 6))) (fC (.int 5)))) (fNil))) [5] (tgName 5) (fYes) C__law_bed_0)))))
def F__law_bed : List O → Rs O := fFun 1 7 (fun j => [0].contains j) B__law_bed
def C__law_shelf_0 : En → Rs Vl :=
 fCallQ F__law_cutter (aVal (fSl true true (fVar 1) (fPart (fBin true gMul (fC (.int 7)) (fVar 2))) (fPart (fBin true gAdd (fBin true gMul (fC (.int 7)) (fVar 2)) (fC (.int 7))))) (aNil))
abbrev N__law_shelf : List Str := ["script", "numbers", "k"]
def B__law_shelf : En → Rs Fl :=
 fSeq (fSet 1 (fCallQ F__law_numbers (aVal (fVar 0) (aVal (fC (.int 2)) (aVal (fC (.int 22)) (aNil))))))
 (fRet (fLc (fRng1 (fCons true (fBin true gAdd (fC (.int 1)) (fBin true gMod (fBinV true gIx (fVar 1) (fC (.int 21))) (fC (.int 3)))) (fNil))) [2] (tgName 2) (fYes) C__law_shelf_0))
def F__law_shelf : List O → Rs O := fFun 1 3 (fun j => [0].contains j) B__law_shelf
def D__law_moves_2 : En → Rs O :=
 fOList (fCons true (fVar 12) (fNil))
def L__law_moves_1 : En → Rs Fl :=
 fSeq (fSet 7 (fCallQ F__law_number (aVal (fVar 0) (aVal (fVar 6) (aNil)))))
 (fSeq (fSet 8 (fMk .tuple (fCons true (fC (.str "hold")) (fCons true (fBin true gMod (fBin true gDiv (fVar 7) (fC (.int 8))) (fCB gLen (fCons true (fVar 2) (fNil)))) (fNil)))))
 (fSeq (fIf (fAndT (fTst (fBin true gGt (fBin true gMod (fVar 7) (fC (.int 8))) (fC (.int 0)))) (fTst (fBin true gGt (fVar 6) (fC (.int 0)))))
 (fSeq (fSet 9 (fBinV true gIx (fBinV true gIx (fVar 4) (fBin true gMod (fBin true gDiv (fVar 7) (fC (.int 8))) (fCB gLen (fCons true (fVar 4) (fNil))))) (fBin true gMod (fBin true gDiv (fVar 7) (fC (.int 64))) (fCB gLen (fCons true (fBinV true gIx (fVar 4) (fC (.int 0))) (fNil))))))
 (fSeq (fSet 8 (fMk .tuple (fCons true (fC (.str "fast")) (fCons true (fC (.str "x")) (fCons true (fBin true gMod (fBin true gDiv (fVar 7) (fC (.int 8))) (fCB gLen (fCons true (fBinV true gIx (fVar 4) (fC (.int 0))) (fNil)))) (fNil))))))
 (fSeq (fIf (fTst (fBin true gEq (fBin true gMod (fVar 7) (fC (.int 2))) (fC (.int 1))))
 (fSet 8 (fMk .tuple (fCons true (fC (.str "slow")) (fCons true (fC (.str "z")) (fCons true (fBin true gSub (fVar 9) (fBin true gMod (fBin true gDiv (fVar 7) (fC (.int 512))) (fC (.int 4)))) (fNil))))))
 (fNext))
 (fSeq (fIf (fTst (fBin true gEq (fBin true gMod (fVar 7) (fC (.int 8))) (fC (.int 2))))
 (fSet 8 (fMk .tuple (fCons true (fC (.str "slow")) (fCons true (fC (.str "y")) (fCons true (fBin true gMod (fBin true gDiv (fVar 7) (fC (.int 8))) (fCB gLen (fCons true (fVar 4) (fNil)))) (fNil))))))
 (fNext))
 (fIf (fTst (fBin true gEq (fBin true gMod (fVar 7) (fC (.int 8))) (fC (.int 4))))
 (fSet 8 (fMk .tuple (fCons true (fC (.str "fast")) (fCons true (fC (.str "z")) (fCons true (fBinV true gIx (fMk .list (fCons true (fC (.int 1000)) (fCons true (fVar 9) (fNil)))) (fBin true gMod (fBin true gDiv (fVar 7) (fC (.int 64))) (fC (.int 2)))) (fNil))))))
 (fNext))))))
 (fNext))
 (fSeq (fSetO 10 (fLcO (fIt (fVar 4)) [12] (tgName 12) (fYes) D__law_moves_2))
 (fSeq (fSetO 11 (fOList (fCons true (fVar 5) (fNil))))
 (fIf (fAndT (fTst (fBin true gLt (fCB gLen (fCons true (fVar 3) (fNil))) (fC (.int 14)))) (fTru (fIsi .int (fCallQ F__law_done (aMv 10 (aVal (fVar 2) (aMv 11 (aVal (fVar 8) (aNil)))))))))
 (fSeq (fSet 4 (fFrz 10))
 (fSeq (fSet 5 (fFrz 11))
 (fApp 3 (fVar 8))))
 (fNext))))))
def C__law_moves_0 : En → Rs Vl :=
 fCB gListOf (fCons true (fVar 12) (fNil))
abbrev N__law_moves : List Str := ["script", "bed", "shelf", "moves", "mine", "held", "k", "number", "move", "near", "twin", "state", "row"]
def B__law_moves : En → Rs Fl :=
 fSeq (fSetO 3 (fOLst (fNil)))
 (fSeq (fSet 4 (fLc (fIt (fVar 1)) [12] (tgName 12) (fYes) C__law_moves_0))
 (fSeq (fSet 5 (fMk .list (fCons true (fC .none) (fCons true (fMk .tuple (fCons true (fC (.int 0)) (fCons true (fC (.int 0)) (fCons true (fC (.int 1000)) (fNil))))) (fNil)))))
 (fSeq (fFor (fRng1 (fCons true (fCB gMin (fCons true (fC (.int 63)) (fCons true (fCB gLen (fCons true (fVar 0) (fNil))) (fNil)))) (fNil))) (tgName 6) L__law_moves_1)
 (fRet (fFrz 3)))))
def F__law_moves : List O → Rs O := fFun 3 13 (fun j => [0, 1, 2].contains j) B__law_moves
def L__law_walked_1 : En → Rs Fl :=
 fIf (fNotT (fTru (fIsi .int (fCallQ F__law_done (aMv 3 (aVal (fVar 1) (aMv 4 (aVal (fVar 5) (aNil)))))))))
 (fRet (fC .none))
 (fNext)
def D__law_walked_0 : En → Rs O :=
 fOList (fCons true (fVar 6) (fNil))
abbrev N__law_walked : List Str := ["bed", "shelf", "moves", "mine", "held", "move", "row"]
def B__law_walked : En → Rs Fl :=
 fSeq (fSetO 3 (fLcO (fIt (fVar 0)) [6] (tgName 6) (fYes) D__law_walked_0))
 (fSeq (fSetO 4 (fOLst (fCons true (fC .none) (fCons true (fMk .tuple (fCons true (fC (.int 0)) (fCons true (fC (.int 0)) (fCons true (fC (.int 1000)) (fNil))))) (fNil)))))
 (fSeq (fFor (fIt (fVar 2)) (tgName 5) L__law_walked_1)
 (fRet (fFrz 3))))
def F__law_walked : List O → Rs O := fFun 3 7 (fun j => [0, 1, 2].contains j) B__law_walked
def L_carved_1 : En → Rs Fl :=
 fSeq (fAsg (tgAny 2 (tgCons (tgName 7) (tgCons (tgName 8) (tgNil)))) (fCallQ F_done_move (aMv 4 (aMv 3 (aVal (fVar 6) (aNil))))))
 (fSeq (fIf (fTst (fBin true gNotN (fVar 8) (fC .none)))
 (fRet (fMk .tuple (fCons false (fFrz 3) (fCons true (fFrz 5) (fCons true (fVar 8) (fNil))))))
 (fNext))
 (fApp 5 (fVar 7)))
def D_carved_0 : En → Rs O :=
 fOList (fCons true (fVar 9) (fNil))
abbrev N_carved : List Str := ["bed", "shelf", "moves", "heights", "carver", "taken", "move", "much", "fault", "row"]
def B_carved : En → Rs Fl :=
 fSeq (fSetO 3 (fLcO (fIt (fVar 0)) [9] (tgName 9) (fYes) D_carved_0))
 (fSeq (fSetO 4 (fMake "Carver" F_Carver___init__ (aVal (fVar 1) (aVal (fCB gLen (fCons true (fBinV true gIx (fVar 0) (fC (.int 0))) (fNil))) (aVal (fCB gLen (fCons true (fVar 0) (fNil))) (aNil))))))
 (fSeq (fSetO 5 (fOLst (fNil)))
 (fSeq (fFor (fIt (fVar 2)) (tgName 6) L_carved_1)
 (fRet (fMk .tuple (fCons false (fFrz 3) (fCons true (fFrz 5) (fCons true (fC .none) (fNil)))))))))
def F_carved : List O → Rs O := fFun 3 10 (fun j => [0, 1, 2].contains j) B_carved
abbrev N_leaves : List Str := ["bed", "shelf", "moves", "wanted", "behind", "taken", "fault"]
def B_leaves : En → Rs Fl :=
 fSeq (fAsg (tgAny 3 (tgCons (tgName 4) (tgCons (tgName 5) (tgCons (tgName 6) (tgNil))))) (fCallQ F_carved (aVal (fVar 0) (aVal (fVar 1) (aVal (fVar 2) (aNil))))))
 (fRet (fAndV (fBin true gIsN (fVar 6) (fC .none)) (fBin true gEq (fVar 4) (fVar 3))))
def F_leaves : List O → Rs O := fFun 4 7 (fun j => [0, 1, 2, 3].contains j) B_leaves
def L_told_apart_1 : En → Rs Fl :=
 fIf (fTst (fBin true gNe (fBinV true gIx (fBinV true gIx (fVar 4) (fVar 6)) (fVar 7)) (fBinV true gIx (fBinV true gIx (fVar 5) (fVar 6)) (fVar 7))))
 (fRet (fMk .tuple (fCons true (fVar 7) (fCons true (fVar 6) (fCons true (fBinV true gIx (fBinV true gIx (fVar 4) (fVar 6)) (fVar 7)) (fCons true (fBinV true gIx (fBinV true gIx (fVar 5) (fVar 6)) (fVar 7)) (fNil)))))))
 (fNext)
def L_told_apart_0 : En → Rs Fl :=
 fFor (fRng1 (fCons true (fCB gLen (fCons true (fBinV true gIx (fVar 4) (fVar 6)) (fNil))) (fNil))) (tgName 7) L_told_apart_1
abbrev N_told_apart : List Str := ["bed", "shelf", "moves", "others", "one", "other", "y", "x"]
def B_told_apart : En → Rs Fl :=
 fSeq (fSet 4 (fBinV true gIx (fCallQ F_carved (aVal (fVar 0) (aVal (fVar 1) (aVal (fVar 2) (aNil))))) (fC (.int 0))))
 (fSeq (fSet 5 (fBinV true gIx (fCallQ F_carved (aVal (fVar 0) (aVal (fVar 1) (aVal (fVar 3) (aNil))))) (fC (.int 0))))
 (fSeq (fFor (fRng1 (fCons true (fCB gLen (fCons true (fVar 4) (fNil))) (fNil))) (tgName 6) L_told_apart_0)
 (fRet (fC .none))))
def F_told_apart : List O → Rs O := fFun 4 8 (fun j => [0, 1, 2, 3].contains j) B_told_apart
noncomputable def L_fewer_1 : En → Rs Fl :=
 fSeq (fSet 7 (fBin true gAdd (fSl true true (fVar 4) (fNoPart) (fPart (fVar 6))) (fSl true true (fVar 4) (fPart (fBin true gAdd (fVar 6) (fC (.int 1)))) (fNoPart))))
 (fIf (fTru (fCallQ F_leaves (aVal (fVar 0) (aVal (fVar 1) (aVal (fVar 7) (aVal (fVar 3) (aNil)))))))
 (fSeq (fSet 4 (fVar 7))
 (fSet 5 (fC (.bool true))))
 (fNext))
noncomputable def L_fewer_0 : En → Rs Fl :=
 fSeq (fSet 5 (fC (.bool false)))
 (fFor (fRng3 (fCons true (fBin true gSub (fCB gLen (fCons true (fVar 4) (fNil))) (fC (.int 1))) (fCons true (fNeg (fC (.int 1))) (fCons true (fNeg (fC (.int 1))) (fNil))))) (tgName 6) L_fewer_1)
abbrev N_fewer : List Str := ["bed", "shelf", "moves", "wanted", "left", "lessened", "at", "rest"]
noncomputable def B_fewer : En → Rs Fl :=
 fSeq (fSet 3 (fBinV true gIx (fCallQ F_carved (aVal (fVar 0) (aVal (fVar 1) (aVal (fVar 2) (aNil))))) (fC (.int 0))))
 (fSeq (fSet 4 (fCB gListOf (fCons true (fVar 2) (fNil))))
 (fSeq (fSet 5 (fC (.bool true)))
 (fSeq (fWhile (fTru (fVar 5)) L_fewer_0)
 (fRet (fVar 4)))))
noncomputable def F_fewer : List O → Rs O := fFun 3 8 (fun j => [0, 1, 2].contains j) B_fewer
noncomputable def L_law_2 : En → Rs Fl :=
 fIf (fTst (fBin true gEq (fCallQ F__law_walked (aVal (fVar 1) (aVal (fVar 2) (aVal (fBin true gAdd (fSl true true (fVar 6) (fNoPart) (fPart (fVar 7))) (fSl true true (fVar 6) (fPart (fBin true gAdd (fVar 7) (fC (.int 1)))) (fNoPart))) (aNil))))) (fVar 4)))
 (fRet (fC (.bool false)))
 (fNext)
noncomputable def C_law_1 : En → Rs Vl :=
 fMk .tuple (fCons true (fCB gListOf (fCons true (fVar 12) (fNil))) (fCons true (fVar 13) (fNil)))
noncomputable def C_law_0 : En → Rs Vl :=
 fCB gListOf (fCons true (fVar 11) (fNil))
abbrev N_law : List Str := ["script", "bed", "shelf", "moves", "left", "handed", "found", "k", "at", "others", "other", "row", "foot", "bite"]
noncomputable def B_law : En → Rs Fl :=
 fSeq (fSet 1 (fCallQ F__law_bed (aVal (fVar 0) (aNil))))
 (fSeq (fSet 2 (fCallQ F__law_shelf (aVal (fVar 0) (aNil))))
 (fSeq (fSet 3 (fCallQ F__law_moves (aVal (fVar 0) (aVal (fVar 1) (aVal (fVar 2) (aNil))))))
 (fSeq (fSet 4 (fCallQ F__law_walked (aVal (fVar 1) (aVal (fVar 2) (aVal (fVar 3) (aNil))))))
 (fSeq (fSet 5 (fMk .list (fCons true (fLc (fIt (fVar 1)) [11] (tgName 11) (fYes) C_law_0) (fCons true (fLc (fIt (fVar 2)) [12, 13] (tgAny 2 (tgCons (tgName 12) (tgCons (tgName 13) (tgNil)))) (fYes) C_law_1) (fCons true (fCB gListOf (fCons true (fVar 3) (fNil))) (fNil))))))
 (fSeq (fSet 6 (fCallQ F_fewer (aVal (fBinV true gIx (fVar 5) (fC (.int 0))) (aVal (fBinV true gIx (fVar 5) (fC (.int 1))) (aVal (fBinV true gIx (fVar 5) (fC (.int 2))) (aNil))))))
 (fSeq (fIf (fOrT (fNotT (fTru (fIsi .list (fVar 6)))) (fOrT (fNotT (fTru (fCallQ F__law_within (aVal (fVar 6) (aVal (fVar 3) (aNil)))))) (fTst (fBin true gNe (fCallQ F__law_walked (aVal (fVar 1) (aVal (fVar 2) (aVal (fVar 6) (aNil))))) (fVar 4)))))
 (fRet (fC (.bool false)))
 (fNext))
 (fSeq (fFor (fRng1 (fCons true (fCB gLen (fCons true (fVar 6) (fNil))) (fNil))) (tgName 7) L_law_2)
 (fSeq (fIf (fOrT (fTst (fBin true gNotN (fCallQ F_told_apart (aVal (fBinV true gIx (fVar 5) (fC (.int 0))) (aVal (fBinV true gIx (fVar 5) (fC (.int 1))) (aVal (fBinV true gIx (fVar 5) (fC (.int 2))) (aVal (fVar 6) (aNil)))))) (fC .none))) (fTst (fBin true gNe (fVar 5) (fMk .list (fCons true (fVar 1) (fCons true (fVar 2) (fCons true (fVar 3) (fNil))))))))
 (fRet (fC (.bool false)))
 (fNext))
 (fSeq (fIf (fTst (fBin true gEq (fVar 3) (fMk .list (fNil))))
 (fRet (fC (.bool true)))
 (fNext))
 (fSeq (fSet 8 (fBin true gMod (fCallQ F__law_cell_at (aVal (fVar 0) (aVal (fC (.int 2)) (aNil)))) (fCB gLen (fCons true (fVar 3) (fNil)))))
 (fSeq (fSet 9 (fBin true gAdd (fSl true true (fVar 3) (fNoPart) (fPart (fVar 8))) (fSl true true (fVar 3) (fPart (fBin true gAdd (fVar 8) (fC (.int 1)))) (fNoPart))))
 (fSeq (fSet 10 (fCallQ F__law_walked (aVal (fVar 1) (aVal (fVar 2) (aVal (fVar 9) (aNil))))))
 (fSeq (fIf (fTst (fBin true gIsN (fVar 10) (fC .none)))
 (fRet (fC (.bool true)))
 (fNext))
 (fRet (fBin true gEq (fCallQ F_told_apart (aVal (fVar 1) (aVal (fVar 2) (aVal (fVar 3) (aVal (fVar 9) (aNil)))))) (fCallQ F__law_first (aVal (fVar 4) (aVal (fVar 10) (aNil)))))))))))))))))))
noncomputable def F_law : List O → Rs O := fFun 1 14 (fun j => [0].contains j) B_law
end GG
set_option linter.all false
set_option maxRecDepth 100000
set_option maxHeartbeats 4000000
/-! Beds carved cell by cell: the program's own words, plainly. Imports any law's functions that hold beds.py's. -/
namespace GG
open PySem PySem.Spec PyProof.Rows L2 MV
abbrev Cutr := List (Int × Int) × Int
abbrev eCut (c : Cutr) : PyData := .tuple [.list (c.1.map wpair), .int c.2]
theorem line1 : sizeLine = 16777216 := rfl
@[simp] theorem atI_0 {α : Type} (a : α) (l : List α) : atI (a :: l) 0 = some a := by
  rw [atI_get? (by decide) (by simp only [List.length_cons]; omega)]; rfl
@[simp] theorem atI_1 {α : Type} (a b : α) (l : List α) : atI (a :: b :: l) 1 = some b := by
  rw [atI_get? (by decide) (by simp only [List.length_cons]; omega)]; rfl
@[simp] theorem atI_2 {α : Type} (a b c : α) (l : List α) : atI (a :: b :: c :: l) 2 = some c := by
  rw [atI_get? (by decide) (by simp only [List.length_cons]; omega)]; rfl
@[simp] theorem gIx_cut0 (c : Cutr) : gIx (.lf (eCut c)) (.lf (.int 0)) = some (.lf (.list (c.1.map wpair))) := rfl
@[simp] theorem gIx_cut1 (c : Cutr) : gIx (.lf (eCut c)) (.lf (.int 1)) = some (.lf (.int c.2)) := rfl
theorem gMax_ii (i j : Int) : gMax [.lf (.int i), .lf (.int j)] = some (.int (max i j)) := rfl
theorem gMin_ii (i j : Int) : gMin [.lf (.int i), .lf (.int j)] = some (.int (min i j)) := rfl
/-! ### cells, places -/
def inbX (w h : Int) (x y : Int) (d : Int × Int) : Bool := (decide (0 ≤ x + d.1) && decide (x + d.1 < w)) && (decide (0 ≤ y + d.2) && decide (y + d.2 < h))
theorem inbX_iff {w h x y : Int} {d : Int × Int} : inbX w h x y d = true ↔ 0 ≤ x + d.1 ∧ x + d.1 < w ∧ 0 ≤ y + d.2 ∧ y + d.2 < h := by
  simp only [inbX, Bool.and_eq_true, decide_eq_true_eq, and_assoc]
def cellsU (foot : List (Int × Int)) (x y w h : Int) : List (Int × Int) := (foot.filter (inbX w h x y)).map fun d => (x + d.1, y + d.2)
theorem cellsU_eq (foot : List (Int × Int)) (hf : foot.length ≤ 26) (x y w h : Int) : F_cells_under [.lf (.list (foot.map wpair)), .lf (.int x), .lf (.int y), .lf (.int w), .lf (.int h)] = .ok (.lf (.list ((cellsU foot x y w h).map wpair))) [some (.lf (.list (foot.map wpair))), some (.lf (.int x)), some (.lf (.int y)), some (.lf (.int w)), some (.lf (.int h))] := by
  obtain ⟨e', ⟨a, b, rfl⟩, hL⟩ := vLc_fm (vs := [5, 6]) (gt := tgAny 2 (tgCons (tgName 5) (tgCons (tgName 6) tgNil))) (tt := fAndT (fTst (fChain true true gLe gLt (fC (.int 0)) (fBin true gAdd (fVar 1) (fVar 5)) (fVar 3))) (fTst (fChain true true gLe gLt (fC (.int 0)) (fBin true gAdd (fVar 2) (fVar 6)) (fVar 4)))) (fe := C_cells_under_0) (f := wpair) (inbX w h x y) (fun d => wpair (x + d.1, y + d.2)) (fun e => ∃ a b, e = [some (.lf (.list (foot.map wpair))), some (.lf (.int x)), some (.lf (.int y)), some (.lf (.int w)), some (.lf (.int h)), a, b]) foot
    [some (.lf (.list (foot.map wpair))), some (.lf (.int x)), some (.lf (.int y)), some (.lf (.int w)), some (.lf (.int h)), none, none] ⟨none, none, rfl⟩ (by rw [line1]; omega) (by
    rintro ⟨dx, dy⟩ _ e ⟨a, b, rfl⟩
    refine ⟨[some (.lf (.list (foot.map wpair))), some (.lf (.int x)), some (.lf (.int y)), some (.lf (.int w)), some (.lf (.int h)), some (.lf (.int dx)), some (.lf (.int dy))], [some (.lf (.list (foot.map wpair))), some (.lf (.int x)), some (.lf (.int y)), some (.lf (.int w)), some (.lf (.int h)), some (.lf (.int dx)), some (.lf (.int dy))], by simp [wpair, wipeE], ?_, fun _ => ⟨_, _, rfl⟩, fun _ => ⟨[some (.lf (.list (foot.map wpair))), some (.lf (.int x)), some (.lf (.int y)), some (.lf (.int w)), some (.lf (.int h)), some (.lf (.int dx)), some (.lf (.int dy))], by simp [C_cells_under_0, wpair, line1], _, _, rfl⟩⟩
    by_cases h1 : 0 ≤ x + dx
    · by_cases h2 : x + dx < w
      · by_cases h3 : 0 ≤ y + dy
        · by_cases h4 : y + dy < h <;> simp [inbX, h1, h2, h3, h4]
        · simp [inbX, h1, h2, h3]
      · simp [inbX, h1, h2]
    · simp [inbX, h1])
  have hq : ((foot.filter (inbX w h x y)).map fun d => wpair (x + d.1, y + d.2)) = (cellsU foot x y w h).map wpair := by unfold cellsU; rw [List.map_map]; rfl
  rw [hq] at hL
  simp [-List.map_map, F_cells_under, fFun, B_cells_under, okOwn, hL, restE]
inductive Ax | x | y | z
  deriving DecidableEq
abbrev Ax.s : Ax → Str
  | .x => "x" | .y => "y" | .z => "z"
def placesB (x y : Int) (ax : Ax) (to : Int) : List (Int × Int) := match ax with
  | .x => (List.range (max x to + 1 - min x to).toNat).map fun k : Nat => (min x to + (k : Int), y)
  | .y => (List.range (max y to + 1 - min y to).toNat).map fun k : Nat => (x, min y to + (k : Int))
  | .z => [(x, y)]
theorem rng_lo (lo : Int) (n : Nat) : rng lo n = (List.range n).map fun k : Nat => .int (lo + (k : Int)) := rfl
theorem placesB_eq (x y : Int) (ax : Ax) (to : Int) (hx : -1000 ≤ x ∧ x ≤ 1000) (hy : -1000 ≤ y ∧ y ≤ 1000) (ht : -10000 ≤ to ∧ to ≤ 10000) : F_places_between [.lf (.int x), .lf (.int y), .lf (.str ax.s), .lf (.int to)] = .ok (.lf (.list ((placesB x y ax to).map wpair))) [some (.lf (.int x)), some (.lf (.int y)), some (.lf (.str ax.s)), some (.lf (.int to))] := by
  cases ax with
  | z => simp [F_places_between, fFun, B_places_between, placesB, wpair, line1]
  | x =>
    have r1 : rOk (min x to) = true := rOk_of (by omega) (by omega)
    have r2 : rOk (max x to + 1) = true := rOk_of (by omega) (by omega)
    obtain ⟨e', ⟨a, rfl⟩, hL⟩ := vLc_map (vs := [4]) (gt := tgName 4) (tt := fYes) (fe := C_places_between_0) (f := fun k : Nat => .int (min x to + (k : Int))) (fun k : Nat => wpair (min x to + (k : Int), y)) (fun e => ∃ a, e = [some (.lf (.int x)), some (.lf (.int y)), some (.lf (.str "x")), some (.lf (.int to)), a]) (List.range (max x to + 1 - min x to).toNat) [some (.lf (.int x)), some (.lf (.int y)), some (.lf (.str "x")), some (.lf (.int to)), none] ⟨none, rfl⟩ (by rw [List.length_range, line1]; omega) (by
      rintro k _ e ⟨a, rfl⟩
      exact ⟨_, _, _, rfl, rfl, by simp [C_places_between_0, wipeE, line1, wpair]; rfl, _, rfl⟩)
    rw [← rng_lo] at hL
    have hp : (List.range (max x to + 1 - min x to).toNat).map (fun k : Nat => wpair (min x to + (k : Int), y)) = (placesB x y .x to).map wpair := by unfold placesB; rw [List.map_map]; rfl
    rw [hp] at hL
    simp [-List.map_map, F_places_between, fFun, B_places_between, okOwn, gMin_ii, gMax_ii, r1, r2, hL, restE]
  | y =>
    have r1 : rOk (min y to) = true := rOk_of (by omega) (by omega)
    have r2 : rOk (max y to + 1) = true := rOk_of (by omega) (by omega)
    obtain ⟨e', ⟨a, rfl⟩, hL⟩ := vLc_map (vs := [4]) (gt := tgName 4) (tt := fYes) (fe := C_places_between_1) (f := fun k : Nat => .int (min y to + (k : Int))) (fun k : Nat => wpair (x, min y to + (k : Int))) (fun e => ∃ a, e = [some (.lf (.int x)), some (.lf (.int y)), some (.lf (.str "y")), some (.lf (.int to)), a]) (List.range (max y to + 1 - min y to).toNat) [some (.lf (.int x)), some (.lf (.int y)), some (.lf (.str "y")), some (.lf (.int to)), none] ⟨none, rfl⟩ (by rw [List.length_range, line1]; omega) (by
      rintro k _ e ⟨a, rfl⟩
      exact ⟨_, _, _, rfl, rfl, by simp [C_places_between_1, wipeE, line1, wpair]; rfl, _, rfl⟩)
    rw [← rng_lo] at hL
    have hp : (List.range (max y to + 1 - min y to).toNat).map (fun k : Nat => wpair (x, min y to + (k : Int))) = (placesB x y .y to).map wpair := by unfold placesB; rw [List.map_map]; rfl
    rw [hp] at hL
    simp [-List.map_map, F_places_between, fFun, B_places_between, okOwn, gMin_ii, gMax_ii, r1, r2, hL, restE]
/-! ### the carver -/
structure CSt where
  cut : Option Cutr
  x : Int
  y : Int
  z : Int
abbrev oCut : Option Cutr → PyData
  | none => .none
  | some c => eCut c
abbrev insC (sh : List Cutr) (w h : Int) (s : CSt) : O := .ins "Carver" [("shelf", .lf (.list (sh.map eCut))), ("wide", .lf (.int w)), ("deep", .lf (.int h)), ("cutter", .lf (oCut s.cut)), ("x", .lf (.int s.x)), ("y", .lf (.int s.y)), ("z", .lf (.int s.z))]
theorem init_eq (sh : List Cutr) (w h : Int) : F_Carver___init__ [.ins "Carver" [], .lf (.list (sh.map eCut)), .lf (.int w), .lf (.int h)] = .ok (.lf .none) [some (insC sh w h ⟨none, 0, 0, 1000⟩), some (.lf (.list (sh.map eCut))), some (.lf (.int w)), some (.lf (.int h))] := by
  simp [F_Carver___init__, fFun, B_Carver___init__, putO]
inductive Flt | shelf | low | bare | out | crash | bite
  deriving DecidableEq
abbrev Flt.s : Flt → Str
  | .shelf => "shelf" | .low => "low" | .bare => "bare" | .out => "out" | .crash => "crash" | .bite => "bite"
abbrev oFlt : Option Flt → PyData
  | none => .none
  | some f => .tuple [.str f.s]
def holdF (sh : List Cutr) (s : CSt) (n : Int) : Option Flt := if n < 0 ∨ (sh.length : Int) ≤ n then some .shelf else if s.z ≠ 1000 then some .low else none
theorem holdF_eq (sh : List Cutr) (w h : Int) (s : CSt) (n : Int) : F_Carver_hold_fault [insC sh w h s, .lf (.int n)] = .ok (.lf (oFlt (holdF sh s n))) [some (insC sh w h s), some (.lf (.int n))] := by
  unfold holdF
  by_cases h1 : n < 0
  · simp [F_Carver_hold_fault, fFun, B_Carver_hold_fault, h1, line1]
  · by_cases h2 : (sh.length : Int) ≤ n
    · simp [F_Carver_hold_fault, fFun, B_Carver_hold_fault, h1, h2, line1]
    · by_cases h3 : s.z = 1000 <;> simp [F_Carver_hold_fault, fFun, B_Carver_hold_fault, h1, h2, h3, line1]
def mostOf (w h : Int) : Ax → Int
  | .x => w - 1 | .y => h - 1 | .z => 1000
def moveF (w h : Int) (s : CSt) (ax : Ax) (to : Int) : Option Flt := match s.cut with
  | none => some .bare
  | some _ => if to < 0 ∨ mostOf w h ax < to then some .out else none
theorem moveF_eq (sh : List Cutr) (w h : Int) (s : CSt) (ax : Ax) (to : Int) : F_Carver_move_fault [insC sh w h s, .lf (.str ax.s), .lf (.int to)] = .ok (.lf (oFlt (moveF w h s ax to))) [some (insC sh w h s), some (.lf (.str ax.s)), some (.lf (.int to))] := by
  obtain ⟨cut, x, y, z⟩ := s
  unfold moveF
  cases cut with
  | none => simp [F_Carver_move_fault, fFun, B_Carver_move_fault, line1]
  | some c =>
    by_cases h1 : to < 0
    · cases ax <;> simp [F_Carver_move_fault, fFun, B_Carver_move_fault, line1, h1, mostOf]
    · cases ax with
      | x => by_cases h2 : w - 1 < to <;> simp [F_Carver_move_fault, fFun, B_Carver_move_fault, line1, h1, h2, mostOf]
      | y => by_cases h2 : h - 1 < to <;> simp [F_Carver_move_fault, fFun, B_Carver_move_fault, line1, h1, h2, mostOf]
      | z => by_cases h2 : 1000 < to <;> simp [F_Carver_move_fault, fFun, B_Carver_move_fault, line1, h1, h2, mostOf]
def goneP (s : CSt) (ax : Ax) (to : Int) : CSt := match ax with
  | .x => { s with x := to } | .y => { s with y := to } | .z => { s with z := to }
theorem gone_eq (sh : List Cutr) (w h : Int) (s : CSt) (ax : Ax) (to : Int) : F_Carver_gone [insC sh w h s, .lf (.str ax.s), .lf (.int to)] = .ok (.lf .none) [some (insC sh w h (goneP s ax to)), some (.lf (.str ax.s)), some (.lf (.int to))] := by
  cases ax <;> simp [F_Carver_gone, fFun, B_Carver_gone, putO, goneP]
end GG
set_option linter.all false
set_option maxRecDepth 100000
set_option maxHeartbeats 4000000
namespace GG
open PySem PySem.Spec PyProof.Rows L2 MV
/-! Grids of heights. -/
abbrev Grid := List (List Int)
abbrev eBed (b : Grid) : PyData := .list (b.map fun r => .list (r.map .int))
theorem atI_map {α : Type} {g : α → PyData} {l : List α} {i : Int} (d : α) (h0 : 0 ≤ i) (h1 : i < l.length) : atI (l.map g) i = some (g (l.getD i.toNat d)) := by
  rw [atI_get? h0 (by simpa using h1), List.getElem?_map, List.getElem?_eq_getElem (by omega), List.getD_eq_getElem?_getD, List.getElem?_eq_getElem (by omega)]; rfl
/-- at least one row, all of one length, at least one -/
structure Rect (w : Nat) (b : Grid) : Prop where
  ne : 0 < b.length
  le : b.length ≤ 40
  all : ∀ r ∈ b, r.length = w
  w0 : 0 < w
  wl : w ≤ 40
def hAt (b : Grid) (x y : Int) : Int := (b.getD y.toNat []).getD x.toNat 0
theorem Rect.row {w : Nat} {b : Grid} (h : Rect w b) {y : Int} (h0 : 0 ≤ y) (h1 : y < b.length) : (b.getD y.toNat []).length = w := by
  rw [List.getD_eq_getElem?_getD, List.getElem?_eq_getElem (by omega)]
  exact h.all _ (List.getElem_mem _)
theorem Rect.zero {w : Nat} {b : Grid} (h : Rect w b) : ∃ r : List Int, r.length = w ∧ atI (b.map fun r => PyData.list (r.map .int)) 0 = some (.list (r.map .int)) :=
  ⟨_, h.row (y := 0) (by omega) (by have := h.ne; omega), atI_map [] (by omega) (by have := h.ne; omega)⟩
theorem Rect.at {w : Nat} {b : Grid} (R : Rect w b) {x y : Int} (h1 : 0 ≤ y) (h2 : y < b.length) (h3 : 0 ≤ x) (h4 : x < w) : ∃ r : List Int, atI (b.map fun r => PyData.list (r.map PyData.int)) y = some (.list (r.map .int)) ∧ atI (r.map PyData.int) x = some (.int (hAt b x y)) :=
  ⟨b.getD y.toNat [], atI_map [] h1 h2, atI_map 0 h3 (by rw [R.row h1 h2]; exact h4)⟩
abbrev oR (r : List Int) : O := .lst (r.map fun i => .lf (.int i))
abbrev oG (g : Grid) : O := .lst (g.map fun r => oR r)
theorem ixN_of {n : Nat} {i : Int} (h0 : 0 ≤ i) (h1 : i < n) : ixN n i = some i.toNat := by
  unfold ixN; rw [if_pos h0, if_pos (by omega)]
theorem gIx_oG {g : Grid} {up : O → En} {y : Int} (h0 : 0 ≤ y) (h1 : y < g.length) : gIx (.pl (oG g) up) (.lf (.int y)) = some (.pl (oR (g.getD y.toNat [])) fun o' => up (.lst ((g.map fun r => oR r).set y.toNat o'))) := by
  unfold gIx
  dsimp only
  rw [show ixN (List.map (fun r => oR r) g).length y = some y.toNat from ixN_of h0 (by simpa using h1)]
  have : (List.map (fun r => oR r) g)[y.toNat]? = some (oR (g.getD y.toNat [])) := by
    rw [List.getElem?_map, List.getElem?_eq_getElem (by omega), List.getD_eq_getElem?_getD, List.getElem?_eq_getElem (by omega)]; rfl
  dsimp only
  rw [this]
theorem gIx_oR {r : List Int} {up : O → En} {x : Int} (h0 : 0 ≤ x) (h1 : x < r.length) : gIx (.pl (oR r) up) (.lf (.int x)) = some (.lf (.int (r.getD x.toNat 0))) := by
  refine gIx_p (j := x.toNat) (ixN_of h0 (by simpa using h1)) ?_
  rw [List.getElem?_map, List.getElem?_eq_getElem (by omega), List.getD_eq_getElem?_getD, List.getElem?_eq_getElem (by omega)]; rfl
def setAt (g : Grid) (x y v : Int) : Grid := g.set y.toNat ((g.getD y.toNat []).set x.toNat v)
theorem setAt_len {g : Grid} {x y v : Int} : (setAt g x y v).length = g.length := by unfold setAt; rw [List.length_set]
theorem Rect.set {w : Nat} {g : Grid} (R : Rect w g) {x y v : Int} (h0 : 0 ≤ y) (h1 : y < g.length) : Rect w (setAt g x y v) := by
  refine ⟨by unfold setAt; rw [List.length_set]; exact R.ne, by unfold setAt; rw [List.length_set]; exact R.le, fun r hr => ?_, R.w0, R.wl⟩
  unfold setAt at hr
  rcases List.mem_or_eq_of_mem_set hr with h | h
  · exact R.all r h
  · rw [h, List.length_set]; exact R.row h0 h1
theorem hAt_set {w : Nat} {g : Grid} (R : Rect w g) {x y v x' y' : Int} (h0 : 0 ≤ y) (h1 : y < g.length) (h2 : 0 ≤ x) (h3 : x < w) (k0 : 0 ≤ y') (k1 : y' < g.length) (k2 : 0 ≤ x') (k3 : x' < w) : hAt (setAt g x y v) x' y' = if x' = x ∧ y' = y then v else hAt g x' y' := by
  unfold hAt setAt
  have hr := R.row h0 h1
  by_cases hy : y' = y
  · subst hy
    have e : (g.set y'.toNat ((g.getD y'.toNat []).set x.toNat v)).getD y'.toNat [] = (g.getD y'.toNat []).set x.toNat v := by
      rw [List.getD_eq_getElem?_getD, List.getElem?_set_self (by omega)]; rfl
    rw [e]
    by_cases hx : x' = x
    · subst hx
      rw [if_pos ⟨rfl, rfl⟩, List.getD_eq_getElem?_getD, List.getElem?_set_self (by omega)]; rfl
    · rw [if_neg (fun t => hx t.1), List.getD_eq_getElem?_getD, List.getElem?_set_ne (by omega), ← List.getD_eq_getElem?_getD]
  · rw [if_neg (fun t => hy t.2)]
    have e : (g.set y.toNat ((g.getD y.toNat []).set x.toNat v)).getD y'.toNat [] = g.getD y'.toNat [] := by
      rw [List.getD_eq_getElem?_getD, List.getElem?_set_ne (by omega), ← List.getD_eq_getElem?_getD]
    rw [e]
theorem er_oR (r : List Int) : (oR r).er = some (.list (r.map .int)) := by simp [oR]
theorem ers_oG : ∀ g : Grid, O.ers (g.map fun r => oR r) = some (g.map fun r => .list (r.map .int))
  | [] => by rw [List.map_nil, O.ers]; rfl
  | r :: g => by rw [List.map_cons, O.ers, er_oR, ers_oG g]; rfl
theorem er_oG (g : Grid) : (oG g).er = some (eBed g) := by
  unfold oG; rw [er_lst, ers_oG]; rfl
/-- beds that agree everywhere are one -/
theorem grid_ext {w : Nat} {g g' : Grid} (R : Rect w g) (R' : Rect w g') (hl : g.length = g'.length) (h : ∀ x y : Int, 0 ≤ x → x < w → 0 ≤ y → y < g.length → hAt g x y = hAt g' x y) : g = g' := by
  refine List.ext_getElem hl fun y h1 h2 => ?_
  have r1 := R.all _ (List.getElem_mem h1)
  have r2 := R'.all _ (List.getElem_mem h2)
  refine List.ext_getElem (by rw [r1, r2]) fun x h3 h4 => ?_
  have := h (x : Int) (y : Int) (by omega) (by omega) (by omega) (by omega)
  unfold hAt at this
  simpa [List.getD_eq_getElem?_getD, h1, h2, h3, h4] using this
end GG
set_option linter.all false
set_option maxRecDepth 100000
set_option maxHeartbeats 4000000
namespace GG
open PySem PySem.Spec PyProof.Rows L2 MV
/-! ### swept -/
def cset (acc : List (Int × Int)) (c : Int × Int) : List (Int × Int) := if c ∈ acc then acc else acc ++ [c]
abbrev eK (c : Int × Int) : List Key × O := ([.inl c.1, .inl c.2], .lf (.bool true))
theorem dPut_eK (acc : List (Int × Int)) (c : Int × Int) : dPut [.inl c.1, .inl c.2] (.lf (.bool true)) (acc.map eK) = (cset acc c).map eK := by
  have ha : ((acc.map eK).any fun p => decide (p.1 = [Sum.inl c.1, Sum.inl c.2])) = decide (c ∈ acc) := by
    induction acc with
    | nil => simp
    | cons a acc ih =>
      rw [List.map_cons, List.any_cons, ih]
      obtain ⟨a1, a2⟩ := a
      obtain ⟨c1, c2⟩ := c
      simp only [eK, List.cons.injEq, Sum.inl.injEq, and_true, List.mem_cons, Prod.mk.injEq, Bool.decide_or]
      congr 1
      rw [decide_eq_decide]
      constructor <;> rintro ⟨rfl, rfl⟩ <;> exact ⟨rfl, rfl⟩
  unfold dPut cset
  rw [ha]
  by_cases h : c ∈ acc
  · rw [if_pos (decide_eq_true h), if_pos h, List.map_map]
    refine List.map_congr_left fun a _ => ?_
    simp only [Function.comp]
    split
    · rfl
    · rfl
  · rw [if_neg (by simpa using h), if_neg h, List.map_append]; rfl
theorem cset_len (acc : List (Int × Int)) (c : Int × Int) : (cset acc c).length ≤ acc.length + 1 := by
  unfold cset; split
  · omega
  · simp
theorem csets_len (cs : List (Int × Int)) : ∀ acc, (cs.foldl cset acc).length ≤ acc.length + cs.length := by
  induction cs with
  | nil => intro acc; simp
  | cons c cs ih => intro acc; rw [List.foldl_cons, List.length_cons]; have := ih (cset acc c); have := cset_len acc c; omega
theorem csets_mem (cs : List (Int × Int)) (p : Int × Int) : ∀ acc, p ∈ cs.foldl cset acc ↔ p ∈ acc ∨ p ∈ cs := by
  induction cs with
  | nil => intro acc; simp
  | cons c cs ih =>
    intro acc
    rw [List.foldl_cons, ih]
    unfold cset
    split
    · rename_i h
      constructor
      · rintro (h1 | h1)
        · exact .inl h1
        · exact .inr (List.mem_cons_of_mem _ h1)
      · rintro (h1 | h1)
        · exact .inl h1
        · rcases List.mem_cons.mp h1 with rfl | h1
          · exact .inl h
          · exact .inr h1
    · simp only [List.mem_append, List.mem_singleton, List.mem_cons, List.not_mem_nil, or_false]
      constructor
      · rintro ((h1 | h1) | h1)
        · exact .inl h1
        · exact .inr (.inl h1)
        · exact .inr (.inr h1)
      · rintro (h1 | h1 | h1)
        · exact .inl (.inl h1)
        · exact .inl (.inr h1)
        · exact .inr h1
theorem csets_nd (cs : List (Int × Int)) : ∀ acc, acc.Nodup → (cs.foldl cset acc).Nodup := by
  induction cs with
  | nil => intro acc h; exact h
  | cons c cs ih =>
    intro acc h
    rw [List.foldl_cons]
    refine ih _ ?_
    unfold cset
    split
    · exact h
    · rename_i hc
      rw [List.nodup_append]
      exact ⟨h, by simp, fun a ha b hb => by simp at hb; rw [hb]; exact fun e => hc (e ▸ ha)⟩
def sweptL (foot : List (Int × Int)) (w h : Int) (ps : List (Int × Int)) : List (Int × Int) := (ps.flatMap fun p => cellsU foot p.1 p.2 w h).foldl cset []
theorem cellsU_in {foot : List (Int × Int)} {x y w h : Int} {c : Int × Int} (hc : c ∈ cellsU foot x y w h) : 0 ≤ c.1 ∧ c.1 < w ∧ 0 ≤ c.2 ∧ c.2 < h := by
  unfold cellsU at hc
  obtain ⟨d, hd, rfl⟩ := List.mem_map.mp hc
  exact inbX_iff.mp (List.mem_filter.mp hd).2
theorem sweptL_in {foot : List (Int × Int)} {w h : Int} {ps : List (Int × Int)} {c : Int × Int} (hc : c ∈ sweptL foot w h ps) : 0 ≤ c.1 ∧ c.1 < w ∧ 0 ≤ c.2 ∧ c.2 < h := by
  unfold sweptL at hc
  rw [csets_mem] at hc
  rcases hc with hc | hc
  · cases hc
  · obtain ⟨p, _, hp⟩ := List.mem_flatMap.mp hc
    exact cellsU_in hp
theorem cellsU_len {foot : List (Int × Int)} {x y w h : Int} : (cellsU foot x y w h).length ≤ foot.length := by
  unfold cellsU; rw [List.length_map]; exact List.length_filter_le _ _
def lowOf (s : CSt) (ax : Ax) (to : Int) : Int := match ax with
  | .z => min s.z to
  | _ => s.z
section
variable {sh : List Cutr} {w h : Int} {s : CSt} {c : Cutr}
theorem sw1_eq (o1 o2 o4 o5 o6 o7 o0 : Option O) (cs acc : List (Int × Int)) (hl : acc.length + cs.length ≤ 100000) : ∃ k6, vFor (tgName 6) L_Carver_swept_1 (cs.map wpair) [o0, o1, o2, some (.dcT (acc.map eK)), o4, o5, o6, o7] = .ok .nx [o0, o1, o2, some (.dcT ((cs.foldl cset acc).map eK)), o4, o5, k6, o7] := by
  obtain ⟨e', hL, hl', k6, rfl⟩ := vFor_map (gt := tgName 6) (body := L_Carver_swept_1) wpair cs (fun i e => ((cs.take i).foldl cset acc).length ≤ acc.length + i ∧ ∃ k6, e = [o0, o1, o2, some (.dcT (((cs.take i).foldl cset acc).map eK)), o4, o5, k6, o7]) [o0, o1, o2, some (.dcT (acc.map eK)), o4, o5, o6, o7] ⟨by simp, o6, rfl⟩ (by
    rintro i c e hi ⟨hl', k6, rfl⟩
    have hil := (List.getElem?_eq_some_iff.mp hi).1
    have hst : (cs.take (i + 1)).foldl cset acc = cset ((cs.take i).foldl cset acc) c := by rw [List.take_add_one, hi, List.foldl_append]; rfl
    refine ⟨_, _, rfl, .inl ?_, ?_, some (.lf (wpair c)), rfl⟩
    · have hsz : ((cs.take i).foldl cset acc).length < 16777216 := by omega
      rw [hst, ← dPut_eK]
      simp [-List.map_map, L_Carver_swept_1, wpair, line1, hsz]
    · rw [hst]; have := cset_len ((cs.take i).foldl cset acc) c; omega)
  rw [List.take_length] at hL
  exact ⟨k6, hL⟩
theorem sw0_eq (hc : s.cut = some c) (hf : c.1.length ≤ 26) (ps : List (Int × Int)) (hp : ps.length ≤ 1000) (o1 o2 o4 o5 o6 o7 : Option O) : ∃ k4 k5 k6, vFor (tgAny 2 (tgCons (tgName 4) (tgCons (tgName 5) tgNil))) L_Carver_swept_0 (ps.map wpair) [some (insC sh w h s), o1, o2, some (.dcT []), o4, o5, o6, o7] = .ok .nx [some (insC sh w h s), o1, o2, some (.dcT ((sweptL c.1 w h ps).map eK)), k4, k5, k6, o7] := by
  have hlen : ∀ l : List (Int × Int), (l.flatMap fun p => cellsU c.1 p.1 p.2 w h).length ≤ 26 * l.length := by
    intro l
    induction l with
    | nil => simp
    | cons a l ih =>
      rw [List.flatMap_cons, List.length_append, List.length_cons]
      have := cellsU_len (foot := c.1) (x := a.1) (y := a.2) (w := w) (h := h)
      omega
  obtain ⟨e', hL, k4, k5, k6, rfl⟩ := vFor_map (gt := tgAny 2 (tgCons (tgName 4) (tgCons (tgName 5) tgNil))) (body := L_Carver_swept_0) wpair ps (fun i e => ∃ k4 k5 k6, e = [some (insC sh w h s), o1, o2, some (.dcT ((sweptL c.1 w h (ps.take i)).map eK)), k4, k5, k6, o7]) [some (insC sh w h s), o1, o2, some (.dcT []), o4, o5, o6, o7] ⟨o4, o5, o6, rfl⟩ (by
    rintro i ⟨px, py⟩ e hi ⟨k4, k5, k6, rfl⟩
    have hil := (List.getElem?_eq_some_iff.mp hi).1
    have hst : sweptL c.1 w h (ps.take (i + 1)) = (cellsU c.1 px py w h).foldl cset (sweptL c.1 w h (ps.take i)) := by
      unfold sweptL
      rw [List.take_add_one, hi, List.flatMap_append, List.foldl_append]
      simp
    have h1 : (sweptL c.1 w h (ps.take i)).length ≤ 26 * i := by
      unfold sweptL
      have := csets_len ((ps.take i).flatMap fun p => cellsU c.1 p.1 p.2 w h) []
      have := hlen (ps.take i)
      rw [List.length_take] at this
      simp only [List.length_nil] at *
      omega
    have h2 := cellsU_len (foot := c.1) (x := px) (y := py) (w := w) (h := h)
    obtain ⟨j6, hS⟩ := sw1_eq o1 o2 (some (.lf (.int px))) (some (.lf (.int py))) k6 o7 (some (insC sh w h s)) (cellsU c.1 px py w h) (sweptL c.1 w h (ps.take i)) (by omega)
    have hcu := cellsU_eq c.1 hf px py w h
    refine ⟨_, _, rfl, .inl ?_, some (.lf (.int px)), some (.lf (.int py)), j6, rfl⟩
    rw [hst]
    simp only [wpair, List.set_cons_zero, List.set_cons_succ]
    obtain ⟨cut, sx, sy, sz⟩ := s
    dsimp only at hc
    subst hc
    simp [-List.map_map, L_Carver_swept_0, hcu]
    exact hS)
  rw [List.take_length] at hL
  exact ⟨k4, k5, k6, hL⟩
theorem swept_eq (hc : s.cut = some c) (hf : c.1.length ≤ 26) (ax : Ax) (to : Int) (hx : 0 ≤ s.x ∧ s.x < 1000) (hy : 0 ≤ s.y ∧ s.y < 1000) (ht : 0 ≤ to ∧ to ≤ 1000) (hax : ax ≠ .z → to < 900) :
    F_Carver_swept [insC sh w h s, .lf (.str ax.s), .lf (.int to)] = .ok (.lf (.tuple [.list ((sweptL c.1 w h (placesB s.x s.y ax to)).map wpair), .int (lowOf s ax to)])) [some (insC sh w h s), some (.lf (.str ax.s)), some (.lf (.int to))] := by
  have hpl : (placesB s.x s.y ax to).length ≤ 1000 := by
    cases ax with
    | x => simp only [placesB, List.length_map, List.length_range]; have := hax (by decide); omega
    | y => simp only [placesB, List.length_map, List.length_range]; have := hax (by decide); omega
    | z => simp [placesB]
  have hpb := placesB_eq s.x s.y ax to (by omega) (by omega) (by omega)
  obtain ⟨k4, k5, k6, hL⟩ := sw0_eq (sh := sh) (w := w) (h := h) hc hf (placesB s.x s.y ax to) hpl (some (.lf (.str ax.s))) (some (.lf (.int to))) none none none none
  have hg : ∀ l : List (Int × Int), (l.map eK).map (fun p => PyData.tuple (p.1.map unKey)) = l.map wpair := fun l => by rw [List.map_map]; rfl
  cases ax with
  | x => simp [-List.map_map, F_Carver_swept, fFun, B_Carver_swept, hpb, hL, hg, lowOf, line1]
  | y => simp [-List.map_map, F_Carver_swept, fFun, B_Carver_swept, hpb, hL, hg, lowOf, line1]
  | z => simp [-List.map_map, F_Carver_swept, fFun, B_Carver_swept, hpb, hL, hg, lowOf, line1, gMin_ii]
end
/-! ### met, cut down -/
def metP (g : Grid) (cells : List (Int × Int)) (most : Int) : Bool := cells.any fun c => decide (most < hAt g c.1 c.2)
def In (W H : Nat) (cells : List (Int × Int)) : Prop := ∀ c ∈ cells, 0 ≤ c.1 ∧ c.1 < (W : Int) ∧ 0 ≤ c.2 ∧ c.2 < (H : Int)
section
variable {W : Nat} {g : Grid}
theorem met_eq (R : Rect W g) (cells : List (Int × Int)) (hin : In W g.length cells) (most : Int) : F_met [.lf (eBed g), .lf (.list (cells.map wpair)), .lf (.int most)] = .ok (.lf (.bool (metP g cells most))) [some (.lf (eBed g)), some (.lf (.list (cells.map wpair))), some (.lf (.int most))] := by
  obtain ⟨e', ⟨a, b, rfl⟩, hL⟩ := vFor_find (gt := tgAny 2 (tgCons (tgName 3) (tgCons (tgName 4) tgNil))) (body := L_met_0) (f := wpair) (fun c : Int × Int => decide (most < hAt g c.1 c.2)) (fun _ => .lf (.bool true)) (fun e => ∃ a b, e = [some (.lf (eBed g)), some (.lf (.list (cells.map wpair))), some (.lf (.int most)), a, b]) cells [some (.lf (eBed g)), some (.lf (.list (cells.map wpair))), some (.lf (.int most)), none, none] ⟨none, none, rfl⟩ (by
    rintro ⟨cx, cy⟩ hc e ⟨a, b, rfl⟩
    obtain ⟨h1, h2, h3, h4⟩ := hin _ hc
    obtain ⟨r, hr1, hr2⟩ := R.at h3 h4 h1 h2
    refine ⟨[some (.lf (eBed g)), some (.lf (.list (cells.map wpair))), some (.lf (.int most)), some (.lf (.int cx)), some (.lf (.int cy))], by simp [wpair], fun z => ?_, fun z => ?_⟩
    · have z' : ¬ most < hAt g cx cy := of_decide_eq_false z
      exact ⟨_, .inl (by simp [-List.map_map, L_met_0, hr1, hr2, z']), some (.lf (.int cx)), some (.lf (.int cy)), rfl⟩
    · have z' : most < hAt g cx cy := of_decide_eq_true z
      exact ⟨_, by simp [-List.map_map, L_met_0, hr1, hr2, z'], some (.lf (.int cx)), some (.lf (.int cy)), rfl⟩)
  have hm : metP g cells most = (cells.find? fun c => decide (most < hAt g c.1 c.2)).isSome := by unfold metP; rw [List.isSome_find?]
  rw [hm]
  cases hf : cells.find? fun c => decide (most < hAt g c.1 c.2) with
  | none => rw [hf] at hL; simp [-List.map_map, F_met, fFun, B_met, hL]
  | some p => rw [hf] at hL; simp [-List.map_map, F_met, fFun, B_met, hL]
def cutOne (low : Int) (gt : Grid × Int) (c : Int × Int) : Grid × Int := if low < hAt gt.1 c.1 c.2 then (setAt gt.1 c.1 c.2 low, gt.2 + (hAt gt.1 c.1 c.2 - low)) else gt
def cutP (g : Grid) (cells : List (Int × Int)) (low : Int) : Grid × Int := cells.foldl (cutOne low) (g, 0)
theorem cutOne_ok {low : Int} {gt : Grid × Int} {c : Int × Int} {H : Nat} (R : Rect W gt.1) (hH : gt.1.length = H) (h3 : 0 ≤ c.2) (h4 : c.2 < (H : Int)) : Rect W (cutOne low gt c).1 ∧ (cutOne low gt c).1.length = H := by
  unfold cutOne
  split
  · exact ⟨R.set h3 (by rw [hH]; exact h4), by rw [setAt_len]; exact hH⟩
  · exact ⟨R, hH⟩
theorem cuts_ok {low : Int} {H : Nat} : ∀ (cells : List (Int × Int)) (gt : Grid × Int), In W H cells → Rect W gt.1 → gt.1.length = H → Rect W (cells.foldl (cutOne low) gt).1 ∧ (cells.foldl (cutOne low) gt).1.length = H
  | [], gt, _, R, hH => ⟨R, hH⟩
  | c :: cs, gt, hin, R, hH => by
    obtain ⟨_, _, h3, h4⟩ := hin c List.mem_cons_self
    obtain ⟨R2, h2⟩ := cutOne_ok (low := low) (c := c) R hH h3 h4
    exact cuts_ok cs _ (fun c hc => hin c (List.mem_cons_of_mem _ hc)) R2 h2
theorem cutP_ok {cells : List (Int × Int)} {low : Int} (R : Rect W g) (hin : In W g.length cells) : Rect W (cutP g cells low).1 ∧ (cutP g cells low).1.length = g.length := cuts_ok cells (g, 0) hin R rfl
theorem cut_eq (R : Rect W g) (cells : List (Int × Int)) (hin : In W g.length cells) (low : Int) : F_cut_down [oG g, .lf (.list (cells.map wpair)), .lf (.int low)] = .ok (.lf (.int (cutP g cells low).2)) [some (oG (cutP g cells low).1), some (.lf (.list (cells.map wpair))), some (.lf (.int low))] := by
  obtain ⟨e', hL, R', hl', a, b, rfl⟩ := vFor_fold (gt := tgAny 2 (tgCons (tgName 4) (tgCons (tgName 5) tgNil))) (body := L_cut_down_0) wpair (cutOne low) (fun (gt : Grid × Int) e => Rect W gt.1 ∧ gt.1.length = g.length ∧ ∃ a b, e = [some (oG gt.1), some (.lf (.list (cells.map wpair))), some (.lf (.int low)), some (.lf (.int gt.2)), a, b]) cells (g, 0) [some (oG g), some (.lf (.list (cells.map wpair))), some (.lf (.int low)), some (.lf (.int 0)), none, none] ⟨R, rfl, none, none, rfl⟩ (by
    rintro ⟨cx, cy⟩ hc ⟨g', t⟩ e ⟨R', hl', a, b, rfl⟩
    obtain ⟨h1, h2, h3, h4⟩ := hin _ hc
    dsimp only at h1 h2 h3 h4 R' hl'
    have hyg : cy < g'.length := by rw [hl']; exact h4
    have hrow := R'.row h3 hyg
    have hxg : cx < (g'.getD cy.toNat []).length := by rw [hrow]; exact h2
    have i1 := fun up => gIx_oG (g := g') (up := up) (y := cy) h3 hyg
    have i2 := fun up => gIx_oR (r := g'.getD cy.toNat []) (up := up) (x := cx) h1 hxg
    have i3 : ixN (g'.getD cy.toNat []).length cx = some cx.toNat := ixN_of h1 hxg
    have hh : (g'.getD cy.toNat []).getD cx.toNat 0 = hAt g' cx cy := rfl
    rw [hh] at i2
    have hok := cutOne_ok (low := low) (gt := (g', t)) (c := (cx, cy)) R' hl' h3 h4
    simp only [List.getD_eq_getElem?_getD] at i1 i2 i3
    refine ⟨[some (oG g'), some (.lf (.list (cells.map wpair))), some (.lf (.int low)), some (.lf (.int t)), some (.lf (.int cx)), some (.lf (.int cy))], [some (oG (cutOne low (g', t) (cx, cy)).1), some (.lf (.list (cells.map wpair))), some (.lf (.int low)), some (.lf (.int (cutOne low (g', t) (cx, cy)).2)), some (.lf (.int cx)), some (.lf (.int cy))], by simp [wpair], .inl ?_, hok.1, hok.2, _, _, rfl⟩
    unfold cutOne
    by_cases hlt : low < hAt g' cx cy
    · rw [if_pos hlt]
      simp [-List.map_map, L_cut_down_0, i1, i2, hlt, i3]
      simp [setAt, oR, List.map_set]
    · rw [if_neg hlt]
      simp [-List.map_map, L_cut_down_0, i1, i2, hlt])
  simp [-List.map_map, F_cut_down, fFun, B_cut_down, hL]
  exact ⟨rfl, rfl⟩
end
end GG
set_option linter.all false
set_option maxRecDepth 100000
set_option maxHeartbeats 4000000
namespace GG
open PySem PySem.Spec PyProof.Rows L2 MV
/-! ### moves -/
inductive Mv | hold (n : Int) | go (slow : Bool) (ax : Ax) (to : Int)
  deriving DecidableEq
def wK (slow : Bool) : Str := if slow then "slow" else "fast"
@[simp] theorem wK_t : wK true = "slow" := rfl
@[simp] theorem wK_f : wK false = "fast" := rfl
def eMv : Mv → PyData
  | .hold n => .tuple [.str "hold", .int n]
  | .go slow ax to => .tuple [.str (wK slow), .str ax.s, .int to]
theorem eMv_h (n : Int) : eMv (.hold n) = .tuple [.str "hold", .int n] := rfl
theorem eMv_g (slow : Bool) (ax : Ax) (to : Int) : eMv (.go slow ax to) = .tuple [.str (wK slow), .str ax.s, .int to] := rfl
@[simp] theorem mapO_eMv (ms : List Mv) : (ms.map eMv).map O.lf = ms.map fun m => O.lf (eMv m) := List.map_map
structure Rp where
  s : CSt
  g : Grid
  t : Int
  f : Option Flt
def doneP (sh : List Cutr) (w h : Int) (s : CSt) (g : Grid) : Mv → Rp
  | .hold n => match holdF sh s n with
    | some f => ⟨s, g, 0, some f⟩
    | none => ⟨{ s with cut := sh[n.toNat]? }, g, 0, none⟩
  | .go slow ax to => match moveF w h s ax to, s.cut with
    | some f, _ => ⟨s, g, 0, some f⟩
    | none, none => ⟨s, g, 0, none⟩
    | none, some c =>
      if slow then
        if metP g (sweptL c.1 w h (placesB s.x s.y ax to)) (lowOf s ax to + c.2) then ⟨s, g, 0, some .bite⟩
        else ⟨goneP s ax to, (cutP g (sweptL c.1 w h (placesB s.x s.y ax to)) (lowOf s ax to)).1, (cutP g (sweptL c.1 w h (placesB s.x s.y ax to)) (lowOf s ax to)).2, none⟩
      else
        if metP g (sweptL c.1 w h (placesB s.x s.y ax to)) (lowOf s ax to) then ⟨s, g, 0, some .crash⟩
        else ⟨goneP s ax to, g, 0, none⟩
/-- a state as it may be -/
structure SOk (sh : List Cutr) (w h : Int) (s : CSt) : Prop where
  x : 0 ≤ s.x ∧ s.x < w
  y : 0 ≤ s.y ∧ s.y < h
  z : 0 ≤ s.z ∧ s.z ≤ 1000
  c : ∀ c, s.cut = some c → c ∈ sh
theorem moveF_none {w h : Int} {s : CSt} {ax : Ax} {to : Int} (hm : moveF w h s ax to = none) : ∃ c, s.cut = some c ∧ 0 ≤ to ∧ to ≤ mostOf w h ax := by
  unfold moveF at hm
  split at hm
  · cases hm
  · rename_i c hc
    split at hm
    · cases hm
    · exact ⟨c, hc, by omega, by omega⟩
section
variable {sh : List Cutr} {W : Nat} {g : Grid} {s : CSt}
theorem doneP_ok (hs : ∀ c ∈ sh, c.1.length ≤ 26) (R : Rect W g) (S : SOk sh W g.length s) (m : Mv) : SOk sh W g.length (doneP sh W g.length s g m).s ∧ Rect W (doneP sh W g.length s g m).g ∧ (doneP sh W g.length s g m).g.length = g.length := by
  cases m with
  | hold n =>
    unfold doneP
    dsimp only
    split
    · exact ⟨S, R, rfl⟩
    · refine ⟨⟨S.x, S.y, S.z, fun c hc => List.mem_of_getElem? hc⟩, R, rfl⟩
  | go slow ax to =>
    unfold doneP
    dsimp only
    split
    · exact ⟨S, R, rfl⟩
    · exact ⟨S, R, rfl⟩
    · rename_i c hm hc
      obtain ⟨_, _, h0, h1⟩ := moveF_none hm
      have Sg : SOk sh W g.length (goneP s ax to) := by
        cases ax with
        | x => exact ⟨⟨h0, by simp only [mostOf] at h1; dsimp only [goneP]; omega⟩, S.y, S.z, S.c⟩
        | y => exact ⟨S.x, ⟨h0, by simp only [mostOf] at h1; dsimp only [goneP]; omega⟩, S.z, S.c⟩
        | z => exact ⟨S.x, S.y, ⟨h0, h1⟩, S.c⟩
      split
      · split
        · exact ⟨S, R, rfl⟩
        · have := cutP_ok (low := lowOf s ax to) R (cells := sweptL c.1 W g.length (placesB s.x s.y ax to)) (fun c hc => sweptL_in hc)
          exact ⟨Sg, this.1, this.2⟩
      · split
        · exact ⟨S, R, rfl⟩
        · exact ⟨Sg, R, rfl⟩
theorem done_eq (hs : ∀ c ∈ sh, c.1.length ≤ 26) (R : Rect W g) (S : SOk sh W g.length s) (m : Mv) : F_done_move [insC sh W g.length s, oG g, .lf (eMv m)] = .ok (.lf (.tuple [.int (doneP sh W g.length s g m).t, oFlt (doneP sh W g.length s g m).f])) [some (insC sh W g.length (doneP sh W g.length s g m).s), some (oG (doneP sh W g.length s g m).g), some (.lf (eMv m))] := by
  have hwl := R.wl
  have hgl := R.le
  have e0 := er_oG g
  cases m with
  | hold n =>
    have hh := holdF_eq sh W g.length s n
    unfold doneP
    dsimp only
    split
    · rename_i f hf
      rw [hf] at hh
      simp [-List.map_map, F_done_move, fFun, B_done_move, eMv, hh, line1]
    · rename_i hf
      rw [hf] at hh
      have hb : 0 ≤ n ∧ n < (sh.length : Int) := by
        unfold holdF at hf
        split at hf
        · cases hf
        · omega
      have hat : atI (sh.map eCut) n = some (oCut sh[n.toNat]?) := by
        rw [atI_get? hb.1 (by simpa using hb.2), List.getElem?_map, List.getElem?_eq_getElem (by omega)]; rfl
      simp [-List.map_map, F_done_move, fFun, B_done_move, eMv, hh, line1, hat, putO]
  | go slow ax to =>
    have hm := moveF_eq sh W g.length s ax to
    unfold doneP
    dsimp only
    cases hf : moveF W g.length s ax to with
    | some f =>
      rw [hf] at hm
      cases slow <;> simp [-List.map_map, F_done_move, fFun, B_done_move, eMv, hm, line1]
    | none =>
      rw [hf] at hm
      obtain ⟨c, hc, h0, h1⟩ := moveF_none hf
      rw [hc]
      dsimp only
      have hsw := swept_eq (sh := sh) (w := W) (h := g.length) hc (hs c (S.c c hc)) ax to (by have := S.x; omega) (by have := S.y; omega) ⟨h0, by cases ax <;> simp only [mostOf] at h1 <;> omega⟩ (fun hne => by cases ax <;> simp only [mostOf] at h1 <;> first | omega | exact absurd rfl hne)
      have hin : In W g.length (sweptL c.1 W g.length (placesB s.x s.y ax to)) := fun c hc => sweptL_in hc
      generalize sweptL c.1 (W : Int) (g.length : Int) (placesB s.x s.y ax to) = cells at hsw hin
      have hgo := gone_eq sh W g.length s ax to
      have hme := fun most => met_eq R cells hin most
      have hcu := cut_eq R cells hin (lowOf s ax to)
      generalize lowOf s ax to = low at *
      obtain ⟨cut, sx, sy, sz⟩ := s
      dsimp only at hc
      subst hc
      cases slow with
      | true =>
        cases hmp : metP g cells (low + c.2) with
        | true => simp [-List.map_map, F_done_move, fFun, B_done_move, eMv, hm, line1, hsw, e0, hme, hmp, -er_lst]
        | false => simp [-List.map_map, F_done_move, fFun, B_done_move, eMv, hm, line1, hsw, e0, hme, hmp, hcu, hgo, -er_lst]
      | false =>
        cases hmp : metP g cells low with
        | true => simp [-List.map_map, F_done_move, fFun, B_done_move, eMv, hm, line1, hsw, e0, hme, hmp, -er_lst]
        | false => simp [-List.map_map, F_done_move, fFun, B_done_move, eMv, hm, line1, hsw, e0, hme, hmp, hgo, -er_lst]
end
end GG
set_option linter.all false
set_option maxRecDepth 100000
set_option maxHeartbeats 4000000
namespace GG
open PySem PySem.Spec PyProof.Rows L2 MV
/-! ### carved -/
def carveP (sh : List Cutr) (w h : Int) : CSt → Grid → List Mv → Grid × List Int × Option Flt
  | _, g, [] => (g, [], none)
  | s, g, m :: ms => match (doneP sh w h s g m).f with
    | some f => ((doneP sh w h s g m).g, [], some f)
    | none => ((carveP sh w h (doneP sh w h s g m).s (doneP sh w h s g m).g ms).1, (doneP sh w h s g m).t :: (carveP sh w h (doneP sh w h s g m).s (doneP sh w h s g m).g ms).2.1, (carveP sh w h (doneP sh w h s g m).s (doneP sh w h s g m).g ms).2.2)
section
variable {sh : List Cutr} {W : Nat}
theorem carveP_ok (hs : ∀ c ∈ sh, c.1.length ≤ 26) {H : Nat} : ∀ (ms : List Mv) {s : CSt} {g : Grid}, Rect W g → g.length = H → SOk sh W H s → Rect W (carveP sh W H s g ms).1 ∧ (carveP sh W H s g ms).1.length = H ∧ (carveP sh W H s g ms).2.1.length ≤ ms.length
  | [], s, g, R, hH, S => ⟨R, hH, Nat.le_refl _⟩
  | m :: ms, s, g, R, hH, S => by
    subst hH
    obtain ⟨S2, R2, l2⟩ := doneP_ok hs R S m
    unfold carveP
    split
    · exact ⟨R2, l2, Nat.zero_le _⟩
    · obtain ⟨h1, h2, h3⟩ := carveP_ok hs ms R2 l2 S2
      exact ⟨h1, h2, by simp only [List.length_cons]; omega⟩
abbrev oI (ts : List Int) : O := .lst (ts.map fun i => .lf (.int i))
theorem carve_loop (hs : ∀ c ∈ sh, c.1.length ≤ 26) {H : Nat} (o0 o1 o2 o9 : Option O) : ∀ (ms : List Mv) (s : CSt) (g : Grid) (ts : List Int) (o6 o7 o8 : Option O), Rect W g → g.length = H → SOk sh W H s → ts.length + ms.length ≤ 100000 →
    ∃ k3 k4 k5 k6 k7 k8, vFor (tgName 6) L_carved_1 (ms.map eMv) [o0, o1, o2, some (oG g), some (insC sh W H s), some (oI ts), o6, o7, o8, o9] = .ok (match (carveP sh W H s g ms).2.2 with
      | some f => .ret (.lf (.tuple [eBed (carveP sh W H s g ms).1, .list ((ts ++ (carveP sh W H s g ms).2.1).map .int), oFlt (some f)]))
      | none => .nx) [o0, o1, o2, k3, k4, k5, k6, k7, k8, o9] ∧ ((carveP sh W H s g ms).2.2 = none → k3 = some (oG (carveP sh W H s g ms).1) ∧ k5 = some (oI (ts ++ (carveP sh W H s g ms).2.1)))
  | [], s, g, ts, o6, o7, o8, R, hH, S, hl => ⟨some (oG g), some (insC sh W H s), some (oI ts), o6, o7, o8, rfl, fun _ => ⟨rfl, by simp [carveP]⟩⟩
  | m :: ms, s, g, ts, o6, o7, o8, R, hH, S, hl => by
    subst hH
    obtain ⟨S2, R2, l2⟩ := doneP_ok hs R S m
    have hd := done_eq hs R S m
    rw [List.length_cons] at hl
    have hsz : ts.length < 16777216 := by omega
    have hst : ∀ f, (doneP sh W g.length s g m).f = some f → L_carved_1 [o0, o1, o2, some (oG g), some (insC sh W g.length s), some (oI ts), some (.lf (eMv m)), o7, o8, o9] = .ok (.ret (.lf (.tuple [eBed (doneP sh W g.length s g m).g, .list (ts.map .int), oFlt (some f)]))) [o0, o1, o2, some (.lf (eBed (doneP sh W g.length s g m).g)), some (insC sh W g.length (doneP sh W g.length s g m).s), some (.lf (.list (ts.map .int))), some (.lf (eMv m)), some (.lf (.int (doneP sh W g.length s g m).t)), some (.lf (oFlt (some f))), o9] := fun f hf => by
      rw [hf] at hd
      have he := er_oG (doneP sh W g.length s g m).g
      simp [-List.map_map, -er_lst, L_carved_1, hd, he, line1]
      simp [oI]
    have hst2 : (doneP sh W g.length s g m).f = none → L_carved_1 [o0, o1, o2, some (oG g), some (insC sh W g.length s), some (oI ts), some (.lf (eMv m)), o7, o8, o9] = .ok .nx [o0, o1, o2, some (oG (doneP sh W g.length s g m).g), some (insC sh W g.length (doneP sh W g.length s g m).s), some (oI (ts ++ [(doneP sh W g.length s g m).t])), some (.lf (eMv m)), some (.lf (.int (doneP sh W g.length s g m).t)), some (.lf .none), o9] := fun hf => by
      rw [hf] at hd
      simp [-List.map_map, L_carved_1, hd, line1, hsz]
    rw [List.map_cons, vFor]
    simp only [tgName_eq, List.length_cons, List.length_nil, List.set_cons_succ, List.set_cons_zero]
    rw [if_pos (by decide)]
    dsimp only
    unfold carveP
    cases hf : (doneP sh W g.length s g m).f with
    | some f =>
      rw [hst f hf]
      dsimp only
      exact ⟨_, _, _, _, _, _, by rw [List.append_nil], (fun h => nomatch h)⟩
    | none =>
      rw [hst2 hf]
      dsimp only
      obtain ⟨k3, k4, k5, k6, k7, k8, h1, h2⟩ := carve_loop hs o0 o1 o2 o9 ms (doneP sh W g.length s g m).s (doneP sh W g.length s g m).g (ts ++ [(doneP sh W g.length s g m).t]) (some (.lf (eMv m))) (some (.lf (.int (doneP sh W g.length s g m).t))) (some (.lf .none)) R2 l2 S2 (by simp only [List.length_append, List.length_cons, List.length_nil]; omega)
      rw [List.append_assoc] at h1 h2
      exact ⟨k3, k4, k5, k6, k7, k8, h1, h2⟩
theorem copyH_eq (b : Grid) (hb : b.length ≤ 40) (o0 o1 o2 o3 o4 o5 o6 o7 o8 : Option O) : ∃ k, vLcO [9] (tgName 9) fYes D_carved_0 (b.map fun r => .list (r.map .int)) [] [o0, o1, o2, o3, o4, o5, o6, o7, o8, none] = .ok (b.map fun r => oR r) [o0, o1, o2, o3, o4, o5, o6, o7, o8, k] := by
  obtain ⟨acc', e', hL2, rfl, k1, rfl⟩ := vLcO_inv (vs := [9]) (gt := tgName 9) (tt := fYes) (fe := D_carved_0) (fun i acc env => acc = (b.take i).map (fun r => oR r) ∧ ∃ k, env = [o0, o1, o2, o3, o4, o5, o6, o7, o8, k]) (b.map fun r => .list (r.map .int)) 0 [] [o0, o1, o2, o3, o4, o5, o6, o7, o8, none] ⟨by simp, none, rfl⟩ (by
      rintro i w' acc e2 hi ⟨rfl, k1, rfl⟩
      rw [List.getElem?_map] at hi
      cases hg : b[i]? with
      | none => rw [hg] at hi; cases hi
      | some d =>
      rw [hg] at hi
      cases hi
      refine ⟨[o0, o1, o2, o3, o4, o5, o6, o7, o8, some (.lf (.list (d.map .int)))], true, _, by simp [wipeE], rfl, (fun h => nomatch h), fun _ => ⟨oR d, [o0, o1, o2, o3, o4, o5, o6, o7, o8, some (.lf (.list (d.map .int)))], by simp [D_carved_0, oR], by simp [line1]; omega, ?_, _, rfl⟩⟩
      rw [Nat.zero_add, List.take_add_one, hg]; simp)
  rw [List.length_map, Nat.zero_add, List.take_length] at hL2
  exact ⟨_, hL2⟩
abbrev s0 : CSt := ⟨none, 0, 0, 1000⟩
theorem s0_ok {H : Nat} (hW : 0 < W) (hH : 0 < H) : SOk sh W H s0 := ⟨⟨by decide, by dsimp only; omega⟩, ⟨by decide, by dsimp only; omega⟩, ⟨by decide, by decide⟩, fun c h => nomatch h⟩
def carved (sh : List Cutr) (W : Nat) (b : Grid) (ms : List Mv) : Grid × List Int × Option Flt := carveP sh W b.length s0 b ms
abbrev eCarved (r : Grid × List Int × Option Flt) : PyData := .tuple [eBed r.1, .list (r.2.1.map .int), oFlt r.2.2]
theorem carved_eq {b : Grid} (R : Rect W b) (hs : ∀ c ∈ sh, c.1.length ≤ 26) (ms : List Mv) (hm : ms.length ≤ 90000) : F_carved [.lf (eBed b), .lf (.list (sh.map eCut)), .lf (.list (ms.map eMv))] = .ok (.lf (eCarved (carved sh W b ms))) [some (.lf (eBed b)), some (.lf (.list (sh.map eCut))), some (.lf (.list (ms.map eMv)))] := by
  obtain ⟨k, hcp⟩ := copyH_eq b R.le (some (.lf (eBed b))) (some (.lf (.list (sh.map eCut)))) (some (.lf (.list (ms.map eMv)))) none none none none none none
  obtain ⟨r0, hr0, hz⟩ := R.zero
  obtain ⟨k3, k4, k5, k6, k7, k8, hL, hn⟩ := carve_loop hs (W := W) (H := b.length) (some (.lf (eBed b))) (some (.lf (.list (sh.map eCut)))) (some (.lf (.list (ms.map eMv)))) none ms s0 b [] none none none R rfl (s0_ok R.w0 R.ne) (by simp only [List.length_nil]; omega)
  have hi := init_eq sh W b.length
  simp only [oI, List.map_nil, s0] at hL hn
  unfold carved s0
  cases hf : (carveP sh W b.length ⟨none, 0, 0, 1000⟩ b ms).2.2 with
  | some f =>
    rw [hf] at hL
    simp [-List.map_map, F_carved, fFun, B_carved, okOwn, hcp, restE, hz, hr0, hi, line1, hf]
    simp [-List.map_map, hL]
    rw [hf]
  | none =>
    rw [hf] at hL
    obtain ⟨rfl, rfl⟩ := hn hf
    have he := er_oG (carveP sh W b.length ⟨none, 0, 0, 1000⟩ b ms).1
    simp [-List.map_map, -er_lst, F_carved, fFun, B_carved, okOwn, hcp, restE, hz, hr0, hi, line1, hf]
    have ho : ∀ ts : List Int, (O.lst (ts.map fun i => .lf (.int i))).er = some (.list (ts.map .int)) := fun ts => by simp
    simp [-List.map_map, -er_lst, hL, he, ho, line1, hf]
end
end GG
set_option linter.all false
set_option maxRecDepth 100000
set_option maxHeartbeats 4000000
namespace GG
open PySem PySem.Spec PyProof.Rows L2 MV
/-! ### what cutting does to heights -/
def tot (g : Grid) : Int := (g.map List.sum).sum
theorem sum_setI : ∀ (l : List Int) (i : Nat) (v : Int), i < l.length → (l.set i v).sum = l.sum - l.getD i 0 + v
  | [], i, v, h => absurd h (Nat.not_lt_zero _)
  | a :: l, 0, v, h => by simp only [List.set_cons_zero, List.sum_cons, List.getD_cons_zero]; omega
  | a :: l, i + 1, v, h => by
    have := sum_setI l i v (by simpa using h)
    simp only [List.set_cons_succ, List.sum_cons, List.getD_cons_succ]; omega
theorem tot_set {W : Nat} {g : Grid} (R : Rect W g) {x y v : Int} (h0 : 0 ≤ y) (h1 : y < g.length) (h2 : 0 ≤ x) (h3 : x < W) : tot (setAt g x y v) = tot g - hAt g x y + v := by
  have hr := R.row h0 h1
  unfold tot setAt hAt
  rw [List.map_set, sum_setI _ _ _ (by rw [List.length_map]; omega), sum_setI _ _ _ (by omega)]
  have : (List.map List.sum g).getD y.toNat 0 = (g.getD y.toNat []).sum := by
    simp only [List.getD_eq_getElem?_getD, List.getElem?_map]
    rw [List.getElem?_eq_getElem (by omega)]; rfl
  omega
section
variable {W H : Nat}
/-- in the bed -/
abbrev InB (W H : Nat) (x y : Int) : Prop := 0 ≤ x ∧ x < (W : Int) ∧ 0 ≤ y ∧ y < (H : Int)
theorem cutOne_at {low : Int} {gt : Grid × Int} {c : Int × Int} (R : Rect W gt.1) (hH : gt.1.length = H) (hc : InB W H c.1 c.2) {x y : Int} (hp : InB W H x y) : hAt (cutOne low gt c).1 x y = if (x, y) = c then min low (hAt gt.1 x y) else hAt gt.1 x y := by
  subst hH
  obtain ⟨c1, c2⟩ := c
  unfold cutOne
  dsimp only at hc ⊢
  by_cases e : (x, y) = (c1, c2)
  · rw [if_pos e]
    cases e
    split
    · rw [hAt_set R hc.2.2.1 hc.2.2.2 hc.1 hc.2.1 hp.2.2.1 hp.2.2.2 hp.1 hp.2.1, if_pos ⟨rfl, rfl⟩]; omega
    · omega
  · rw [if_neg e]
    split
    · rw [hAt_set R hc.2.2.1 hc.2.2.2 hc.1 hc.2.1 hp.2.2.1 hp.2.2.2 hp.1 hp.2.1, if_neg (fun t => e (by rw [t.1, t.2]))]
    · rfl
theorem cuts_at {low : Int} : ∀ (cells : List (Int × Int)) (gt : Grid × Int), In W H cells → Rect W gt.1 → gt.1.length = H → ∀ {x y : Int}, InB W H x y → hAt (cells.foldl (cutOne low) gt).1 x y = if (x, y) ∈ cells then min low (hAt gt.1 x y) else hAt gt.1 x y
  | [], gt, hin, R, hH, x, y, hp => by simp
  | c :: cs, gt, hin, R, hH, x, y, hp => by
    have hc := hin c List.mem_cons_self
    obtain ⟨R2, h2⟩ := cutOne_ok (low := low) (c := c) R hH hc.2.2.1 hc.2.2.2
    rw [List.foldl_cons, cuts_at cs _ (fun c hc => hin c (List.mem_cons_of_mem _ hc)) R2 h2 hp, cutOne_at R hH hc hp]
    simp only [List.mem_cons]
    by_cases e1 : (x, y) = c <;> by_cases e2 : (x, y) ∈ cs <;> simp only [e1, e2, if_true, if_false, true_or, or_true, or_false, false_or] <;> omega
theorem cuts_tot {low : Int} : ∀ (cells : List (Int × Int)) (gt : Grid × Int), In W H cells → Rect W gt.1 → gt.1.length = H → (cells.foldl (cutOne low) gt).2 + tot (cells.foldl (cutOne low) gt).1 = gt.2 + tot gt.1
  | [], gt, hin, R, hH => rfl
  | c :: cs, gt, hin, R, hH => by
    have hc := hin c List.mem_cons_self
    obtain ⟨R2, h2⟩ := cutOne_ok (low := low) (c := c) R hH hc.2.2.1 hc.2.2.2
    rw [List.foldl_cons, cuts_tot cs _ (fun c hc => hin c (List.mem_cons_of_mem _ hc)) R2 h2]
    unfold cutOne
    split
    · rw [tot_set R hc.2.2.1 (by rw [hH]; exact hc.2.2.2) hc.1 hc.2.1]; dsimp only; omega
    · rfl
theorem cuts_pos {low : Int} : ∀ (cells : List (Int × Int)) (gt : Grid × Int), gt.2 ≤ (cells.foldl (cutOne low) gt).2 ∧ ((cells.foldl (cutOne low) gt).2 = gt.2 → (cells.foldl (cutOne low) gt).1 = gt.1)
  | [], gt => ⟨by simp, fun _ => rfl⟩
  | c :: cs, gt => by
    obtain ⟨h1, h2⟩ := cuts_pos (low := low) cs (cutOne low gt c)
    rw [List.foldl_cons]
    by_cases hl : low < hAt gt.1 c.1 c.2
    · have e : (cutOne low gt c).2 = gt.2 + (hAt gt.1 c.1 c.2 - low) := by unfold cutOne; rw [if_pos hl]
      exact ⟨by omega, fun h => by omega⟩
    · have e : cutOne low gt c = gt := by unfold cutOne; rw [if_neg hl]
      rw [e] at h1 h2 ⊢
      exact ⟨h1, h2⟩
theorem cuts_none {low : Int} : ∀ (cells : List (Int × Int)) (gt : Grid × Int), (∀ c ∈ cells, hAt gt.1 c.1 c.2 ≤ low) → cells.foldl (cutOne low) gt = gt
  | [], gt, h => rfl
  | c :: cs, gt, h => by
    have e : cutOne low gt c = gt := by unfold cutOne; rw [if_neg (by have := h c List.mem_cons_self; omega)]
    rw [List.foldl_cons, e]
    exact cuts_none cs gt fun c hc => h c (List.mem_cons_of_mem _ hc)
theorem met_false {g : Grid} {cells : List (Int × Int)} {most : Int} : metP g cells most = false ↔ ∀ c ∈ cells, hAt g c.1 c.2 ≤ most := by
  unfold metP
  rw [List.any_eq_false]
  simp only [decide_eq_true_eq, Int.not_lt]
/-! ### one move without a fault -/
/-- lower or as low everywhere -/
def Le (W H : Nat) (g g' : Grid) : Prop := ∀ x y, InB W H x y → hAt g x y ≤ hAt g' x y
theorem Le.rfl' {g : Grid} : Le W H g g := fun _ _ _ => Int.le_refl _
theorem Le.trans' {g g' g'' : Grid} (h : Le W H g g') (h' : Le W H g' g'') : Le W H g g'' := fun x y hp => Int.le_trans (h x y hp) (h' x y hp)
variable {sh : List Cutr}
def cellsM (W H : Nat) (c : Cutr) (s : CSt) (ax : Ax) (to : Int) : List (Int × Int) := sweptL c.1 W H (placesB s.x s.y ax to)
theorem done_go {s : CSt} {g : Grid} {slow : Bool} {ax : Ax} {to : Int} {c : Cutr} (hc : s.cut = some c) (hm : moveF W H s ax to = none) : doneP sh W H s g (.go slow ax to) = if slow then
        if metP g (cellsM W H c s ax to) (lowOf s ax to + c.2) then ⟨s, g, 0, some .bite⟩
        else ⟨goneP s ax to, (cutP g (cellsM W H c s ax to) (lowOf s ax to)).1, (cutP g (cellsM W H c s ax to) (lowOf s ax to)).2, none⟩
      else
        if metP g (cellsM W H c s ax to) (lowOf s ax to) then ⟨s, g, 0, some .crash⟩
        else ⟨goneP s ax to, g, 0, none⟩ := by
  unfold doneP cellsM
  dsimp only
  rw [hm, hc]
theorem done_hold {s : CSt} {g : Grid} {n : Int} (h0 : 0 ≤ n) (h1 : n < sh.length) (hz : s.z = 1000) : doneP sh W H s g (.hold n) = ⟨{ s with cut := sh[n.toNat]? }, g, 0, none⟩ := by
  unfold doneP holdF
  dsimp only
  rw [if_neg (by omega), if_neg (by omega)]
inductive Stp (sh : List Cutr) (W H : Nat) (s : CSt) (g : Grid) (m : Mv) : Prop
  | hold (n : Int) (e : m = .hold n) (h0 : 0 ≤ n) (h1 : n < sh.length) (hz : s.z = 1000)
  | fast (ax : Ax) (to : Int) (c : Cutr) (e : m = .go false ax to) (hc : s.cut = some c) (hm : moveF W H s ax to = none) (h : ∀ p ∈ cellsM W H c s ax to, hAt g p.1 p.2 ≤ lowOf s ax to)
  | slow (ax : Ax) (to : Int) (c : Cutr) (e : m = .go true ax to) (hc : s.cut = some c) (hm : moveF W H s ax to = none) (h : ∀ p ∈ cellsM W H c s ax to, hAt g p.1 p.2 ≤ lowOf s ax to + c.2)
theorem stp_of {s : CSt} {g : Grid} {m : Mv} (h : (doneP sh W H s g m).f = none) : Stp sh W H s g m := by
  cases m with
  | hold n =>
    unfold doneP at h
    dsimp only at h
    cases hh : holdF sh s n with
    | some f => rw [hh] at h; cases h
    | none =>
      unfold holdF at hh
      split at hh
      · cases hh
      · split at hh
        · cases hh
        · exact .hold n rfl (by omega) (by omega) (by omega)
  | go slow ax to =>
    cases hm : moveF W H s ax to with
    | some f => unfold doneP at h; dsimp only at h; rw [hm] at h; cases h
    | none =>
      obtain ⟨c, hc, _⟩ := moveF_none hm
      rw [done_go hc hm] at h
      cases slow with
      | true =>
        rw [if_pos rfl] at h
        split at h
        · cases h
        · rename_i hn
          exact .slow ax to c rfl hc hm (met_false.mp (by simpa using hn))
      | false =>
        rw [if_neg Bool.false_ne_true] at h
        split at h
        · cases h
        · rename_i hn
          exact .fast ax to c rfl hc hm (met_false.mp (by simpa using hn))
theorem done_fast {s : CSt} {g : Grid} {ax : Ax} {to : Int} {c : Cutr} (hc : s.cut = some c) (hm : moveF W H s ax to = none) (h : ∀ p ∈ cellsM W H c s ax to, hAt g p.1 p.2 ≤ lowOf s ax to) : doneP sh W H s g (.go false ax to) = ⟨goneP s ax to, g, 0, none⟩ := by
  rw [done_go hc hm, if_neg Bool.false_ne_true, if_neg (by rw [met_false.mpr h]; decide)]
theorem done_slow {s : CSt} {g : Grid} {ax : Ax} {to : Int} {c : Cutr} (hc : s.cut = some c) (hm : moveF W H s ax to = none) (h : ∀ p ∈ cellsM W H c s ax to, hAt g p.1 p.2 ≤ lowOf s ax to + c.2) : doneP sh W H s g (.go true ax to) = ⟨goneP s ax to, (cutP g (cellsM W H c s ax to) (lowOf s ax to)).1, (cutP g (cellsM W H c s ax to) (lowOf s ax to)).2, none⟩ := by
  rw [done_go hc hm, if_pos rfl, if_neg (by rw [met_false.mpr h]; decide)]
theorem cellsM_in {c : Cutr} {s : CSt} {ax : Ax} {to : Int} : In W H (cellsM W H c s ax to) := fun p hp => sweptL_in hp
theorem mem_swept {foot : List (Int × Int)} {w h : Int} {ps : List (Int × Int)} {p : Int × Int} : p ∈ sweptL foot w h ps ↔ ∃ q ∈ ps, p ∈ cellsU foot q.1 q.2 w h := by
  unfold sweptL
  rw [csets_mem]
  simp
theorem places_end (s : CSt) (ax : Ax) (to : Int) : ((goneP s ax to).x, (goneP s ax to).y) ∈ placesB s.x s.y ax to := by
  cases ax with
  | x =>
    simp only [goneP, placesB, List.mem_map, List.mem_range]
    exact ⟨(to - min s.x to).toNat, by omega, by congr 1; omega⟩
  | y =>
    simp only [goneP, placesB, List.mem_map, List.mem_range]
    exact ⟨(to - min s.y to).toNat, by omega, by congr 1; omega⟩
  | z => simp [goneP, placesB]
theorem places_start (s : CSt) (ax : Ax) (to : Int) : (s.x, s.y) ∈ placesB s.x s.y ax to := by
  cases ax with
  | x =>
    simp only [placesB, List.mem_map, List.mem_range]
    exact ⟨(s.x - min s.x to).toNat, by omega, by congr 1; omega⟩
  | y =>
    simp only [placesB, List.mem_map, List.mem_range]
    exact ⟨(s.y - min s.y to).toNat, by omega, by congr 1; omega⟩
  | z => simp [placesB]
/-- heights under 1000; under the cutter none above its height -/
structure Und (W H : Nat) (s : CSt) (g : Grid) : Prop where
  cap : ∀ x y, InB W H x y → hAt g x y ≤ 1000
  und : ∀ c, s.cut = some c → ∀ p ∈ cellsU c.1 s.x s.y W H, hAt g p.1 p.2 ≤ s.z
/-- all of what one move without a fault does -/
theorem step_all {s : CSt} {g : Grid} {m : Mv} (R : Rect W g) (hH : g.length = H) (h : (doneP sh W H s g m).f = none) :
    Le W H (doneP sh W H s g m).g g ∧ (Und W H s g → Und W H (doneP sh W H s g m).s (doneP sh W H s g m).g) ∧ (doneP sh W H s g m).t + tot (doneP sh W H s g m).g = tot g ∧ 0 ≤ (doneP sh W H s g m).t ∧ ((doneP sh W H s g m).t = 0 → (doneP sh W H s g m).g = g) ∧
    (s.cut.isSome → (doneP sh W H s g m).s.cut.isSome) ∧
    (∀ g2, Le W H g2 (doneP sh W H s g m).g → doneP sh W H s g2 m = ⟨(doneP sh W H s g m).s, g2, 0, none⟩) := by
  have low_z : ∀ (ax : Ax) (to : Int), lowOf s ax to ≤ (goneP s ax to).z := fun ax to => by cases ax <;> simp only [lowOf, goneP] <;> omega
  rcases stp_of h with ⟨n, rfl, h0, h1, hz⟩ | ⟨ax, to, c, rfl, hc, hm, hl⟩ | ⟨ax, to, c, rfl, hc, hm, hl⟩
  · rw [done_hold h0 h1 hz]
    refine ⟨Le.rfl', fun U => ⟨U.cap, fun c hc p hp => ?_⟩, by simp, Int.le_refl _, fun _ => rfl, fun _ => ?_, fun g2 _ => done_hold h0 h1 hz⟩
    · have := cellsU_in hp
      dsimp only
      rw [hz]
      exact U.cap _ _ this
    · dsimp only
      rw [List.getElem?_eq_getElem (by omega)]; rfl
  · rw [done_fast hc hm hl]
    have hcut : ∀ d, (goneP s ax to).cut = some d → d = c := fun d hd => by
      have : (goneP s ax to).cut = s.cut := by cases ax <;> rfl
      rw [this, hc] at hd; cases hd; rfl
    refine ⟨Le.rfl', fun U => ⟨U.cap, fun d hd p hp => ?_⟩, by simp, Int.le_refl _, fun _ => rfl, fun hs => ?_, fun g2 hg2 => done_fast hc hm fun p hp => ?_⟩
    · cases hcut d hd
      exact Int.le_trans (hl p (mem_swept.mpr ⟨_, places_end s ax to, hp⟩)) (low_z ax to)
    · have : (goneP s ax to).cut = s.cut := by cases ax <;> rfl
      rw [this]; exact hs
    · have := sweptL_in hp
      exact Int.le_trans (hg2 p.1 p.2 this) (hl p hp)
  · rw [done_slow hc hm hl]
    have hin : In W H (cellsM W H c s ax to) := cellsM_in
    have hat : ∀ {x y : Int}, InB W H x y → hAt (cutP g (cellsM W H c s ax to) (lowOf s ax to)).1 x y = if (x, y) ∈ cellsM W H c s ax to then min (lowOf s ax to) (hAt g x y) else hAt g x y := fun {x y} hp => cuts_at _ (g, 0) hin R hH hp
    have hle : Le W H (cutP g (cellsM W H c s ax to) (lowOf s ax to)).1 g := fun x y hp => by rw [hat hp]; split <;> omega
    have hlo : ∀ p ∈ cellsM W H c s ax to, hAt (cutP g (cellsM W H c s ax to) (lowOf s ax to)).1 p.1 p.2 ≤ lowOf s ax to := fun p hp => by
      rw [hat (sweptL_in hp), if_pos hp]; omega
    have htot : (cutP g (cellsM W H c s ax to) (lowOf s ax to)).2 + tot (cutP g (cellsM W H c s ax to) (lowOf s ax to)).1 = 0 + tot g := cuts_tot _ (g, 0) hin R hH
    have hpos := cuts_pos (low := lowOf s ax to) (cellsM W H c s ax to) (g, 0)
    have hcut : ∀ d, (goneP s ax to).cut = some d → d = c := fun d hd => by
      have : (goneP s ax to).cut = s.cut := by cases ax <;> rfl
      rw [this, hc] at hd; cases hd; rfl
    refine ⟨hle, fun U => ⟨fun x y hp => Int.le_trans (hle x y hp) (U.cap x y hp), fun d hd p hp => ?_⟩, by dsimp only; omega, hpos.1, hpos.2, fun hs => ?_, fun g2 hg2 => ?_⟩
    · cases hcut d hd
      exact Int.le_trans (hlo p (mem_swept.mpr ⟨_, places_end s ax to, hp⟩)) (low_z ax to)
    · have : (goneP s ax to).cut = s.cut := by cases ax <;> rfl
      rw [this]; exact hs
    · have h2 : ∀ p ∈ cellsM W H c s ax to, hAt g2 p.1 p.2 ≤ lowOf s ax to := fun p hp => Int.le_trans (hg2 p.1 p.2 (sweptL_in hp)) (hlo p hp)
      rw [done_slow hc hm fun p hp => Int.le_trans (Int.le_trans (hg2 p.1 p.2 (sweptL_in hp)) (hle _ _ (sweptL_in hp))) (hl p hp)]
      have e : cutP g2 (cellsM W H c s ax to) (lowOf s ax to) = (g2, 0) := cuts_none _ (g2, 0) h2
      rw [e]
end
end GG
set_option linter.all false
set_option maxRecDepth 100000
set_option maxHeartbeats 4000000
namespace GG
open PySem PySem.Spec PyProof.Rows L2 MV
/-! ### runs of moves -/
def runP (sh : List Cutr) (W H : Nat) : CSt → Grid → List Mv → Option (CSt × Grid)
  | s, g, [] => some (s, g)
  | s, g, m :: ms => match (doneP sh W H s g m).f with
    | some _ => none
    | none => runP sh W H (doneP sh W H s g m).s (doneP sh W H s g m).g ms
theorem doneP_okH {sh : List Cutr} {W H : Nat} {g : Grid} {s : CSt} (hs : ∀ c ∈ sh, c.1.length ≤ 26) (R : Rect W g) (hH : g.length = H) (S : SOk sh W H s) (m : Mv) : SOk sh W H (doneP sh W H s g m).s ∧ Rect W (doneP sh W H s g m).g ∧ (doneP sh W H s g m).g.length = H := by
  subst hH
  exact doneP_ok hs R S m
section
variable {sh : List Cutr} {W H : Nat}
theorem runP_cons {s : CSt} {g : Grid} {m : Mv} {ms : List Mv} (h : (doneP sh W H s g m).f = none) : runP sh W H s g (m :: ms) = runP sh W H (doneP sh W H s g m).s (doneP sh W H s g m).g ms := by
  rw [runP, h]
theorem runP_stop {s : CSt} {g : Grid} {m : Mv} {ms : List Mv} {f : Flt} (h : (doneP sh W H s g m).f = some f) : runP sh W H s g (m :: ms) = none := by
  rw [runP, h]
theorem run_some : ∀ {ms : List Mv} {s s' : CSt} {g g' : Grid}, runP sh W H s g ms = some (s', g') → (carveP sh W H s g ms).1 = g' ∧ (carveP sh W H s g ms).2.2 = none ∧ (carveP sh W H s g ms).2.1.length = ms.length
  | [], s, s', g, g', h => by cases h; exact ⟨rfl, rfl, rfl⟩
  | m :: ms, s, s', g, g', h => by
    cases hf : (doneP sh W H s g m).f with
    | some f => rw [runP_stop hf] at h; cases h
    | none =>
      rw [runP_cons hf] at h
      obtain ⟨h1, h2, h3⟩ := run_some h
      unfold carveP
      rw [hf]
      exact ⟨h1, h2, by simp only [List.length_cons]; rw [h3]⟩
theorem run_none : ∀ {ms : List Mv} {s : CSt} {g : Grid}, runP sh W H s g ms = none → ∃ f, (carveP sh W H s g ms).2.2 = some f
  | [], s, g, h => by cases h
  | m :: ms, s, g, h => by
    cases hf : (doneP sh W H s g m).f with
    | some f => unfold carveP; rw [hf]; exact ⟨f, rfl⟩
    | none =>
      rw [runP_cons hf] at h
      obtain ⟨f, h1⟩ := run_none h
      unfold carveP; rw [hf]; exact ⟨f, h1⟩
theorem run_app : ∀ (ms : List Mv) {ns : List Mv} {s : CSt} {g : Grid}, runP sh W H s g (ms ++ ns) = (runP sh W H s g ms).bind fun p => runP sh W H p.1 p.2 ns
  | [], ns, s, g => rfl
  | m :: ms, ns, s, g => by
    rw [List.cons_append]
    cases hf : (doneP sh W H s g m).f with
    | some f => rw [runP_stop hf, runP_stop hf]; rfl
    | none => rw [runP_cons hf, runP_cons hf, run_app ms]
theorem run_pre : ∀ (ms : List Mv) (s : CSt) (g : Grid), ((∀ c ∈ sh, c.1.length ≤ 26) → Rect W g → g.length = H → SOk sh W H s → ∃ s', runP sh W H s g (ms.take (carveP sh W H s g ms).2.1.length) = some (s', (carveP sh W H s g ms).1))
  | [], s, g, hs, R, hH, S => ⟨s, rfl⟩
  | m :: ms, s, g, hs, R, hH, S => by
    cases hf : (doneP sh W H s g m).f with
    | some f =>
      have hg : (doneP sh W H s g m).g = g := by
        cases m with
        | hold n => unfold doneP; dsimp only; split <;> rfl
        | go slow ax to =>
          cases hm : moveF W H s ax to with
          | some f => unfold doneP; dsimp only; rw [hm]
          | none =>
            obtain ⟨c, hc, _⟩ := moveF_none hm
            rw [done_go hc hm] at hf ⊢
            split
            · rename_i hsl
              rw [if_pos hsl] at hf
              split at hf
              · rename_i h2; rw [if_pos h2]
              · cases hf
            · split <;> rfl
      unfold carveP
      rw [hf]
      dsimp only
      rw [hg]
      exact ⟨s, rfl⟩
    | none =>
      obtain ⟨S2, R2, l2⟩ := doneP_okH hs R hH S m
      obtain ⟨s', h'⟩ := run_pre ms (doneP sh W H s g m).s (doneP sh W H s g m).g hs R2 l2 S2
      refine ⟨s', ?_⟩
      unfold carveP
      rw [hf]
      dsimp only
      rw [List.length_cons, List.take_succ_cons, runP_cons hf]
      exact h'
theorem run_ok (hs : ∀ c ∈ sh, c.1.length ≤ 26) : ∀ {ms : List Mv} {s s' : CSt} {g g' : Grid}, Rect W g → g.length = H → SOk sh W H s → runP sh W H s g ms = some (s', g') → Rect W g' ∧ g'.length = H ∧ SOk sh W H s'
  | [], s, s', g, g', R, hH, S, h => by cases h; exact ⟨R, hH, S⟩
  | m :: ms, s, s', g, g', R, hH, S, h => by
    cases hf : (doneP sh W H s g m).f with
    | some f => rw [runP_stop hf] at h; cases h
    | none =>
      rw [runP_cons hf] at h
      obtain ⟨S2, R2, l2⟩ := doneP_okH hs R hH S m
      exact run_ok hs R2 l2 S2 h
theorem run_all (hs : ∀ c ∈ sh, c.1.length ≤ 26) : ∀ {ms : List Mv} {s s' : CSt} {g g' : Grid}, Rect W g → g.length = H → SOk sh W H s → runP sh W H s g ms = some (s', g') →
    Le W H g' g ∧ (Und W H s g → Und W H s' g') ∧ (s.cut.isSome → s'.cut.isSome) ∧ (∀ g2, Le W H g2 g' → runP sh W H s g2 ms = some (s', g2))
  | [], s, s', g, g', R, hH, S, h => by cases h; exact ⟨Le.rfl', fun U => U, fun c => c, fun g2 _ => rfl⟩
  | m :: ms, s, s', g, g', R, hH, S, h => by
    cases hf : (doneP sh W H s g m).f with
    | some f => rw [runP_stop hf] at h; cases h
    | none =>
      rw [runP_cons hf] at h
      obtain ⟨a1, a2, _, _, _, a6, a7⟩ := step_all R hH hf
      obtain ⟨S2, R2, l2⟩ := doneP_okH hs R hH S m
      obtain ⟨b1, b2, b3, b4⟩ := run_all hs R2 l2 S2 h
      refine ⟨b1.trans' a1, fun U => b2 (a2 U), fun c => b3 (a6 c), fun g2 hg2 => ?_⟩
      have e := a7 g2 (hg2.trans' b1)
      rw [runP_cons (by rw [e]), e]
      exact b4 g2 hg2
theorem carve_tot (hs : ∀ c ∈ sh, c.1.length ≤ 26) : ∀ {ms : List Mv} {s s' : CSt} {g g' : Grid}, Rect W g → g.length = H → SOk sh W H s → runP sh W H s g ms = some (s', g') → (carveP sh W H s g ms).2.1.sum + tot g' = tot g ∧ ∀ t ∈ (carveP sh W H s g ms).2.1, 0 ≤ t
  | [], s, s', g, g', R, hH, S, h => by cases h; exact ⟨by simp [carveP], by simp [carveP]⟩
  | m :: ms, s, s', g, g', R, hH, S, h => by
    cases hf : (doneP sh W H s g m).f with
    | some f => rw [runP_stop hf] at h; cases h
    | none =>
      rw [runP_cons hf] at h
      obtain ⟨a1, a2, a3, a4, _⟩ := step_all R hH hf
      obtain ⟨S2, R2, l2⟩ := doneP_okH hs R hH S m
      obtain ⟨b1, b2⟩ := carve_tot hs R2 l2 S2 h
      unfold carveP
      rw [hf]
      dsimp only
      refine ⟨by rw [List.sum_cons]; omega, fun t ht => ?_⟩
      rcases List.mem_cons.mp ht with rfl | ht
      · exact a4
      · exact b2 t ht
theorem carve_snoc : ∀ {ms : List Mv} {m : Mv} {s s' : CSt} {g g' : Grid}, runP sh W H s g ms = some (s', g') → (doneP sh W H s' g' m).f = none → (carveP sh W H s g (ms ++ [m])).2.1 = (carveP sh W H s g ms).2.1 ++ [(doneP sh W H s' g' m).t]
  | [], m, s, s', g, g', h, hf => by
    cases h
    have hf' : (doneP sh W H s g m).f = none := hf
    simp only [List.nil_append, carveP, hf']
  | k :: ms, m, s, s', g, g', h, hf => by
    cases hk : (doneP sh W H s g k).f with
    | some f => rw [runP_stop hk] at h; cases h
    | none =>
      rw [runP_cons hk] at h
      have := carve_snoc (m := m) h hf
      rw [List.cons_append, carveP, carveP, hk]
      dsimp only
      rw [this, List.cons_append]
end
/-! ### a row of moves with none to spare -/
abbrev rmAt (l : List Mv) (k : Nat) : List Mv := l.take k ++ l.drop (k + 1)
def passP (ok : List Mv → Bool) : Nat → List Mv → Bool → List Mv × Bool
  | 0, l, b => (l, b)
  | n + 1, l, b => if ok (rmAt l n) then passP ok n (rmAt l n) true else passP ok n l b
def fewP (ok : List Mv → Bool) : Nat → List Mv → List Mv
  | 0, l => l
  | n + 1, l => if (passP ok l.length l false).2 then fewP ok n (passP ok l.length l false).1 else (passP ok l.length l false).1
section
variable {ok : List Mv → Bool}
theorem rmAt_len {l : List Mv} {k : Nat} (h : k < l.length) : (rmAt l k).length + 1 = l.length := by
  simp only [rmAt, List.length_append, List.length_take, List.length_drop]; omega
theorem rmAt_sub {l : List Mv} {k : Nat} : (rmAt l k).Sublist l := by
  have h1 : (l.take k ++ l.drop (k + 1)).Sublist (l.take k ++ l.drop k) := by
    refine List.Sublist.append_left ?_ _
    have : l.drop (k + 1) = (l.drop k).drop 1 := by rw [List.drop_drop]
    rw [this]; exact List.drop_sublist _ _
  rwa [List.take_append_drop] at h1
theorem pass_ok : ∀ (n : Nat) (l : List Mv) (b : Bool), n ≤ l.length → (passP ok n l b).1.length ≤ l.length ∧ (passP ok n l b).1.Sublist l ∧ (ok l = true → ok (passP ok n l b).1 = true) ∧
    (b = true → (passP ok n l b).2 = true) ∧ (b = false → ((passP ok n l b).2 = true → (passP ok n l b).1.length < l.length) ∧ ((passP ok n l b).2 = false → (passP ok n l b).1 = l ∧ ∀ k, k < n → ok (rmAt l k) = false))
  | 0, l, b, h => ⟨Nat.le_refl _, List.Sublist.refl _, fun h => h, fun h => h, fun h => ⟨fun e => (by rw [show (passP ok 0 l b).2 = b from rfl, h] at e; cases e), fun _ => ⟨rfl, fun k hk => absurd hk (Nat.not_lt_zero _)⟩⟩⟩
  | n + 1, l, b, h => by
    unfold passP
    by_cases ho : ok (rmAt l n) = true
    · rw [if_pos ho]
      have hl := rmAt_len (l := l) (k := n) (by omega)
      obtain ⟨h1, h2, h3, h4, _⟩ := pass_ok n (rmAt l n) true (by omega)
      refine ⟨by omega, h2.trans rmAt_sub, fun _ => h3 ho, fun _ => h4 rfl, fun _ => ⟨fun _ => by omega, fun e => (by rw [h4 rfl] at e; cases e)⟩⟩
    · rw [if_neg ho]
      obtain ⟨h1, h2, h3, h4, h5⟩ := pass_ok n l b (by omega)
      refine ⟨h1, h2, h3, h4, fun hb => ⟨(h5 hb).1, fun e => ⟨((h5 hb).2 e).1, fun k hk => ?_⟩⟩⟩
      rcases Nat.lt_or_ge k n with hkn | hkn
      · exact ((h5 hb).2 e).2 k hkn
      · have : k = n := by omega
        subst this; simpa using ho
theorem few_ok : ∀ (n : Nat) (l : List Mv), l.length < n → (fewP ok n l).Sublist l ∧ (fewP ok n l).length ≤ l.length ∧ (ok l = true → ok (fewP ok n l) = true) ∧ ∀ k, k < (fewP ok n l).length → ok (rmAt (fewP ok n l) k) = false
  | 0, l, h => absurd h (Nat.not_lt_zero _)
  | n + 1, l, h => by
    obtain ⟨h1, h2, h3, _, h5⟩ := pass_ok (ok := ok) l.length l false (Nat.le_refl _)
    unfold fewP
    by_cases hb : (passP ok l.length l false).2 = true
    · rw [if_pos hb]
      have := (h5 rfl).1 hb
      obtain ⟨g1, g2, g3, g4⟩ := few_ok n (passP ok l.length l false).1 (by omega)
      exact ⟨g1.trans h2, by omega, fun e => g3 (h3 e), g4⟩
    · rw [if_neg hb]
      have hb' : (passP ok l.length l false).2 = false := by simpa using hb
      obtain ⟨e, hk⟩ := (h5 rfl).2 hb'
      refine ⟨h2, h1, h3, fun k hkl => ?_⟩
      rw [e] at hkl ⊢
      exact hk k hkl
theorem rmAt_last {l : List Mv} {n : Nat} (h : n + 1 = l.length) : rmAt l n = l.take n := by
  unfold rmAt
  rw [h, List.drop_length, List.append_nil]
/-- where every row's beginning serves, none is left -/
theorem pass_all (hp : ∀ l : List Mv, ok l = true → ∀ k, ok (l.take k) = true) : ∀ (n : Nat) (l : List Mv) (b : Bool), l.length = n → ok l = true → (passP ok n l b).1 = []
  | 0, l, b, h, _ => by
    have : l = [] := List.length_eq_zero_iff.mp h
    subst this; rfl
  | n + 1, l, b, h, ho => by
    unfold passP
    rw [rmAt_last (by omega), if_pos (hp l ho n)]
    exact pass_all hp n _ true (by rw [List.length_take]; omega) (hp l ho n)
end
end GG
set_option linter.all false
set_option maxRecDepth 100000
set_option maxHeartbeats 4000000
namespace GG
open PySem PySem.Spec PyProof.Rows L2 MV
/-! Things like themselves; rows of moves. -/
theorem bed_eqv (b : Grid) : PyData.eqv (eBed b) (eBed b) = true := by
  rw [eqv_ll]
  refine eqvAll_refl fun d hd => ?_
  obtain ⟨r, _, rfl⟩ := List.mem_map.mp hd
  rw [eqv_ll]
  refine eqvAll_refl fun d hd => ?_
  obtain ⟨i, _, rfl⟩ := List.mem_map.mp hd
  simp
theorem bed_sh (b : Grid) : Sh 2 (eBed b) := Sh.list (n := 1) fun d hd => by
  obtain ⟨r, _, rfl⟩ := List.mem_map.mp hd
  refine Sh.list (n := 0) fun d hd => ?_
  obtain ⟨i, _, rfl⟩ := List.mem_map.mp hd
  exact Sh.int i
theorem cut_eqv (c : Cutr) : PyData.eqv (eCut c) (eCut c) = true := by
  unfold eCut
  rw [eqv_tt, eqvAll_cc, eqvAll_cc, eqv_ll, eqvAll_refl]
  · simp
  · intro d hd
    obtain ⟨p, _, rfl⟩ := List.mem_map.mp hd
    simp
theorem cut_sh (c : Cutr) : Sh 3 (eCut c) := Sh.tuple (n := 2) fun d hd => by
  simp at hd
  rcases hd with rfl | rfl
  · exact Sh.list (n := 1) fun d hd => by
      obtain ⟨p, _, rfl⟩ := List.mem_map.mp hd
      exact Sh.wpair p
  · exact (Sh.int _).mono (by omega)
theorem ne_same {a c : Vl} {d : PyData} (h1 : a.er = some d) (h2 : c.er = some d) (hs : Sh 60 d) (he : PyData.eqv d d = true) : gNe a c = some (.bool false) := by
  rw [gNe_of h1 h2 (hs.shaped (by decide)) (hs.shaped (by decide)), he]; rfl
theorem eq_same {a c : Vl} {d : PyData} (h1 : a.er = some d) (h2 : c.er = some d) (hs : Sh 60 d) (he : PyData.eqv d d = true) : gEq a c = some (.bool true) := by
  rw [gEq_of h1 h2 (hs.shaped (by decide)) (hs.shaped (by decide)), he]
theorem cuts_eqv (sh : List Cutr) : PyData.eqv (.list (sh.map eCut)) (.list (sh.map eCut)) = true := by
  rw [eqv_ll]
  exact eqvAll_refl fun d hd => by
    obtain ⟨c, _, rfl⟩ := List.mem_map.mp hd
    exact cut_eqv c
theorem cuts_sh (sh : List Cutr) : Sh 4 (.list (sh.map eCut)) := Sh.list (n := 3) fun d hd => by
  obtain ⟨c, _, rfl⟩ := List.mem_map.mp hd
  exact cut_sh c
theorem strOk_K (slow : Bool) : PyData.strOk (wK slow) = true := by cases slow <;> simp
theorem strOk_ax (ax : Ax) : PyData.strOk ax.s = true := by cases ax <;> simp
theorem mv_sh (m : Mv) : Sh 1 (eMv m) := by
  cases m with
  | hold n =>
    refine Sh.tuple (n := 0) fun d hd => ?_
    simp at hd
    rcases hd with rfl | rfl
    · exact Sh.str (by simp)
    · exact Sh.int _
  | go slow ax to =>
    refine Sh.tuple (n := 0) fun d hd => ?_
    simp only [List.mem_cons, List.not_mem_nil, or_false] at hd
    rcases hd with rfl | rfl | rfl
    · exact Sh.str (strOk_K slow)
    · exact Sh.str (strOk_ax ax)
    · exact Sh.int _
theorem wK_inj (a b : Bool) : (wK a == wK b) = decide (a = b) := by cases a <;> cases b <;> decide +kernel
theorem axs_inj (a b : Ax) : (a.s == b.s) = decide (a = b) := by cases a <;> cases b <;> decide +kernel
theorem mv_eqv (m n : Mv) : PyData.eqv (eMv m) (eMv n) = decide (m = n) := by
  cases m with
  | hold a =>
    cases n with
    | hold b => rw [eMv_h, eMv_h, eqv_tt]; simp [Bool.beq_eq_decide_eq]
    | go s ax to => rw [eMv_h, eMv_g, eqv_tt]; cases s <;> simp [eqvAll_cc, PyData.eqvAll]
  | go s ax to =>
    cases n with
    | hold b => rw [eMv_h, eMv_g, eqv_tt]; cases s <;> simp [eqvAll_cc, PyData.eqvAll]
    | go s2 ax2 to2 => rw [eMv_g, eMv_g, eqv_tt, eqvAll_cc, eqvAll_cc, eqvAll_cc, eqvAll_nn, eqv_ss, eqv_ss, eqv_ii, wK_inj, axs_inj]; simp [Bool.beq_eq_decide_eq, Bool.decide_and]
abbrev eMs (ms : List Mv) : PyData := .list (ms.map eMv)
theorem mvs_sh (ms : List Mv) : Sh 2 (eMs ms) := Sh.list (n := 1) fun d hd => by
  obtain ⟨m, _, rfl⟩ := List.mem_map.mp hd
  exact mv_sh m
theorem mvs_eqv (ms ns : List Mv) : PyData.eqv (eMs ms) (eMs ns) = decide (ms = ns) := by rw [eqv_ll, eqvAll_map mv_eqv]
theorem beds_eqv (b c : Grid) : PyData.eqv (eBed b) (eBed c) = decide (b = c) := by
  rw [eqv_ll, eqvAll_map (h := fun r : List Int => PyData.list (r.map .int)) fun x y => by rw [eqv_ll, eqvAll_map (h := PyData.int) (fun a b => by rw [eqv_ii, Bool.beq_eq_decide_eq])]]
theorem gEq_bed (b c : Grid) : gEq (.lf (eBed b)) (.lf (eBed c)) = some (.bool (decide (b = c))) := by
  rw [gEq_of rfl rfl ((bed_sh b).shaped (by decide)) ((bed_sh c).shaped (by decide)), beds_eqv]
theorem gNe_bed (b c : Grid) : gNe (.lf (eBed b)) (.lf (eBed c)) = some (.bool (!decide (b = c))) := by
  rw [gNe_of rfl rfl ((bed_sh b).shaped (by decide)) ((bed_sh c).shaped (by decide)), beds_eqv]
theorem gEq_ms (a c : List Mv) : gEq (.lf (eMs a)) (.lf (eMs c)) = some (.bool (decide (a = c))) := by
  rw [gEq_of rfl rfl ((mvs_sh a).shaped (by decide)) ((mvs_sh c).shaped (by decide)), mvs_eqv]
theorem gNe_ms (a c : List Mv) : gNe (.lf (eMs a)) (.lf (eMs c)) = some (.bool (!decide (a = c))) := by
  rw [gNe_of rfl rfl ((mvs_sh a).shaped (by decide)) ((mvs_sh c).shaped (by decide)), mvs_eqv]
theorem cut_last {α : Type} {ws : List α} : cut ws none (some (-1)) = ws.dropLast := by
  unfold cut
  rw [HT.sIx_none]
  have : HT.sIx ws.length ws.length (some (-1)) = ws.length - 1 := by
    show (if (-1 : Int) < 0 then (-1 + (ws.length : Int)).toNat else min (-1 : Int).toNat ws.length) = _
    rw [if_pos (by decide)]; omega
  rw [this, List.drop_zero, Nat.sub_zero, List.dropLast_eq_take]
end GG
set_option linter.all false
set_option maxRecDepth 100000
set_option maxHeartbeats 4000000
namespace GG
open PySem PySem.Spec PyProof.Rows L2 MV
/-! ### leaves, fewer -/
def okB (sh : List Cutr) (W : Nat) (b wanted : Grid) (ms : List Mv) : Bool := (carved sh W b ms).2.2.isNone && decide ((carved sh W b ms).1 = wanted)
def few (sh : List Cutr) (W : Nat) (b : Grid) (ms : List Mv) : List Mv := fewP (okB sh W b (carved sh W b ms).1) (ms.length + 1) ms
theorem rngD_succ (lo : Int) (n : Nat) : rngD lo (n + 1) = .int lo :: rngD (lo - 1) n := by
  unfold rngD
  rw [List.range_succ_eq_map, List.map_cons, List.map_map]
  congr 1
  · congr 1; simp
  · refine List.map_congr_left fun k _ => ?_
    simp only [Function.comp]
    congr 1; omega
theorem moveF_ok {w h : Int} {s : CSt} {ax : Ax} {to : Int} {c : Cutr} (hc : s.cut = some c) (h0 : 0 ≤ to) (h1 : to ≤ mostOf w h ax) : moveF w h s ax to = none := by
  unfold moveF
  rw [hc]
  dsimp only
  rw [if_neg (by omega)]
section
variable {W : Nat} {b wanted : Grid} {sh : List Cutr}
theorem leaves_eq (R : Rect W b) (hs : ∀ c ∈ sh, c.1.length ≤ 26) (ms : List Mv) (hm : ms.length ≤ 90000) :
    F_leaves [.lf (eBed b), .lf (.list (sh.map eCut)), .lf (eMs ms), .lf (eBed wanted)] = .ok (.lf (.bool (okB sh W b wanted ms))) [some (.lf (eBed b)), some (.lf (.list (sh.map eCut))), some (.lf (eMs ms)), some (.lf (eBed wanted))] := by
  have c1 := carved_eq R hs ms hm
  have e1 := gEq_bed (carved sh W b ms).1 wanted
  unfold okB
  generalize carved sh W b ms = p at *
  obtain ⟨g, t, f⟩ := p
  dsimp only at e1 ⊢
  cases f with
  | none => simp [-List.map_map, F_leaves, fFun, B_leaves, c1, e1]
  | some f => simp [-List.map_map, F_leaves, fFun, B_leaves, c1]
theorem fewIn (R : Rect W b) (hs : ∀ c ∈ sh, c.1.length ≤ 26) (o2 : Option O) : ∀ (n : Nat) (l : List Mv) (x : Bool) (o6 o7 : Option O), n ≤ l.length → l.length ≤ 90000 →
    ∃ k6 k7, vFor (tgName 6) L_fewer_1 (rngD ((n : Int) - 1) n) [some (.lf (eBed b)), some (.lf (.list (sh.map eCut))), o2, some (.lf (eBed wanted)), some (.lf (eMs l)), some (.lf (.bool x)), o6, o7]
      = .ok .nx [some (.lf (eBed b)), some (.lf (.list (sh.map eCut))), o2, some (.lf (eBed wanted)), some (.lf (eMs (passP (okB sh W b wanted) n l x).1)), some (.lf (.bool (passP (okB sh W b wanted) n l x).2)), k6, k7]
  | 0, l, x, o6, o7, h, hl => ⟨o6, o7, rfl⟩
  | n + 1, l, x, o6, o7, h, hl => by
    rw [rngD_succ]
    have e0 : ((n + 1 : Nat) : Int) - 1 = (n : Int) := by omega
    rw [e0, vFor]
    have hq : tgName 6 (PyData.int (n : Int)) [some (.lf (eBed b)), some (.lf (.list (sh.map eCut))), o2, some (.lf (eBed wanted)), some (.lf (eMs l)), some (.lf (.bool x)), o6, o7] = some [some (.lf (eBed b)), some (.lf (.list (sh.map eCut))), o2, some (.lf (eBed wanted)), some (.lf (eMs l)), some (.lf (.bool x)), some (.lf (.int n)), o7] := rfl
    rw [hq]
    dsimp only
    have q1 : cut (l.map eMv) none (some (n : Int)) = (l.take n).map eMv := by rw [cut_to (by omega), List.map_take]; rfl
    have q2 : cut (l.map eMv) (some ((n : Int) + 1)) none = (l.drop (n + 1)).map eMv := by rw [cut_from (by omega), List.map_drop]; congr 2
    have hsz : min n l.length + (l.length - (n + 1)) ≤ 16777216 := by omega
    have hrl := rmAt_len (l := l) (k := n) (by omega)
    have hL := leaves_eq (wanted := wanted) R hs (rmAt l n) (by omega)
    have hap : (l.take n).map eMv ++ (l.drop (n + 1)).map eMv = (rmAt l n).map eMv := by rw [← List.map_append]
    have hB : L_fewer_1 [some (.lf (eBed b)), some (.lf (.list (sh.map eCut))), o2, some (.lf (eBed wanted)), some (.lf (eMs l)), some (.lf (.bool x)), some (.lf (.int n)), o7]
        = .ok .nx [some (.lf (eBed b)), some (.lf (.list (sh.map eCut))), o2, some (.lf (eBed wanted)), some (.lf (eMs (if okB sh W b wanted (rmAt l n) then rmAt l n else l))), some (.lf (.bool (if okB sh W b wanted (rmAt l n) then true else x))), some (.lf (.int n)), some (.lf (eMs (rmAt l n)))] := by
      generalize hr : rmAt l n = r at *
      cases hk : okB sh W b wanted r with
      | true =>
        rw [hk] at hL
        simp [-List.map_map, -List.map_take, -List.map_drop, -List.map_append, L_fewer_1, q1, q2, line1, hsz, hap, hL]
      | false =>
        rw [hk] at hL
        simp [-List.map_map, -List.map_take, -List.map_drop, -List.map_append, L_fewer_1, q1, q2, line1, hsz, hap, hL]
    rw [hB]
    dsimp only
    unfold passP
    by_cases hk : okB sh W b wanted (rmAt l n) = true
    · rw [if_pos hk, if_pos hk, if_pos hk]
      exact fewIn R hs o2 n (rmAt l n) true _ _ (by omega) (by omega)
    · rw [if_neg hk, if_neg hk, if_neg hk]
      exact fewIn R hs o2 n l x _ _ (by omega) hl
theorem fewWh (R : Rect W b) (hs : ∀ c ∈ sh, c.1.length ≤ 26) (o2 : Option O) : ∀ (n : Nat) (l : List Mv) (o6 o7 : Option O), l.length < n → l.length ≤ 90000 →
    ∃ k6 k7, vWhile (fTru (fVar 5)) L_fewer_0 (n + 1) [some (.lf (eBed b)), some (.lf (.list (sh.map eCut))), o2, some (.lf (eBed wanted)), some (.lf (eMs l)), some (.lf (.bool true)), o6, o7]
      = .ok .nx [some (.lf (eBed b)), some (.lf (.list (sh.map eCut))), o2, some (.lf (eBed wanted)), some (.lf (eMs (fewP (okB sh W b wanted) n l))), some (.lf (.bool false)), k6, k7]
  | 0, l, o6, o7, h, hl => absurd h (Nat.not_lt_zero _)
  | n + 1, l, o6, o7, h, hl => by
    obtain ⟨j6, j7, hI⟩ := fewIn (wanted := wanted) R hs o2 l.length l false o6 o7 (Nat.le_refl _) hl
    obtain ⟨h1, h2, h3, _, h5⟩ := pass_ok (ok := okB sh W b wanted) l.length l false (Nat.le_refl _)
    have hr1 : rOk ((l.length : Int) - 1) = true := rOk_of (by omega) (by omega)
    have hr2 : rOk (-1) = true := rOk_of (by decide) (by decide)
    have hn : ((l.length : Int) - 1 - (-1)).toNat = l.length := by omega
    have hn' : ((l.length : Int) - 1 + 1).toNat = l.length := by omega
    have hB : L_fewer_0 [some (.lf (eBed b)), some (.lf (.list (sh.map eCut))), o2, some (.lf (eBed wanted)), some (.lf (eMs l)), some (.lf (.bool true)), o6, o7] = vFor (tgName 6) L_fewer_1 (rngD ((l.length : Int) - 1) l.length) [some (.lf (eBed b)), some (.lf (.list (sh.map eCut))), o2, some (.lf (eBed wanted)), some (.lf (eMs l)), some (.lf (.bool false)), o6, o7] := by
      simp [-List.map_map, L_fewer_0, hr1, hr2, hn, hn']
    rw [vWhile]
    have hc : fTru (fVar 5) [some (.lf (eBed b)), some (.lf (.list (sh.map eCut))), o2, some (.lf (eBed wanted)), some (.lf (eMs l)), some (.lf (.bool true)), o6, o7] = .ok true [some (.lf (eBed b)), some (.lf (.list (sh.map eCut))), o2, some (.lf (eBed wanted)), some (.lf (eMs l)), some (.lf (.bool true)), o6, o7] := by simp
    rw [hc, Rs.bind_ok, if_pos rfl, hB, hI]
    dsimp only
    unfold fewP
    by_cases hb : (passP (okB sh W b wanted) l.length l false).2 = true
    · rw [if_pos hb, hb]
      have := (h5 rfl).1 hb
      exact fewWh R hs o2 n _ j6 j7 (by omega) (by omega)
    · rw [if_neg hb]
      have hb' : (passP (okB sh W b wanted) l.length l false).2 = false := by simpa using hb
      rw [hb', vWhile]
      exact ⟨j6, j7, by simp⟩
theorem fewer_eq (R : Rect W b) (hs : ∀ c ∈ sh, c.1.length ≤ 26) (ms : List Mv) (hm : ms.length ≤ 90000) :
    F_fewer [.lf (eBed b), .lf (.list (sh.map eCut)), .lf (eMs ms)] = .ok (.lf (eMs (few sh W b ms))) [some (.lf (eBed b)), some (.lf (.list (sh.map eCut))), some (.lf (eMs ms))] := by
  have c1 := carved_eq R hs ms hm
  obtain ⟨k6, k7, hW⟩ := fewWh (wanted := (carved sh W b ms).1) R hs (some (.lf (eMs ms))) (ms.length + 1) ms none none (Nat.lt_succ_self _) hm
  have hW' := fWhile_eq hW (by simp)
  unfold few
  generalize fewP (okB sh W b (carved sh W b ms).1) (ms.length + 1) ms = r at *
  generalize carved sh W b ms = p at *
  obtain ⟨g, t, f⟩ := p
  dsimp only at hW'
  simp [-List.map_map, F_fewer, fFun, B_fewer, c1, hW']
/-! ### rows that leave one bed -/
/-- done without a fault, leaving G -/
def Gd (sh : List Cutr) (W : Nat) (b G : Grid) (ms : List Mv) : Prop := ∃ s, runP sh W b.length s0 b ms = some (s, G)
theorem gd_carved {G : Grid} {ms : List Mv} (R : Rect W b) (hs : ∀ c ∈ sh, c.1.length ≤ 26) (h : Gd sh W b G ms) : ∃ ts, carved sh W b ms = (G, ts, none) ∧ ts.sum = tot b - tot G ∧ ts.length = ms.length ∧ ∀ t ∈ ts, 0 ≤ t := by
  obtain ⟨s, h⟩ := h
  obtain ⟨h1, h2, h3⟩ := run_some h
  obtain ⟨h4, h5⟩ := carve_tot hs R rfl (s0_ok (sh := sh) R.w0 R.ne) h
  refine ⟨(carved sh W b ms).2.1, Prod.ext h1 (Prod.ext rfl h2), ?_, h3, h5⟩
  unfold carved; omega
theorem gd_ok {G : Grid} {ms : List Mv} : okB sh W b G ms = true ↔ Gd sh W b G ms := by
  unfold okB Gd carved
  rw [Bool.and_eq_true, Option.isNone_iff_eq_none, decide_eq_true_eq]
  constructor
  · rintro ⟨h1, h2⟩
    cases hr : runP sh W b.length s0 b ms with
    | none => obtain ⟨f, hf⟩ := run_none hr; rw [hf] at h1; cases h1
    | some p =>
      obtain ⟨s, g⟩ := p
      have := (run_some hr).1
      exact ⟨s, by rw [← h2, this]⟩
  · rintro ⟨s, h⟩
    exact ⟨(run_some h).2.1, (run_some h).1⟩
theorem few_gd {G : Grid} {ms : List Mv} (R : Rect W b) (hs : ∀ c ∈ sh, c.1.length ≤ 26) (h : Gd sh W b G ms) : Gd sh W b G (few sh W b ms) ∧ (few sh W b ms).Sublist ms ∧ (few sh W b ms).length ≤ ms.length ∧ ∀ k, k < (few sh W b ms).length → ¬ Gd sh W b G (rmAt (few sh W b ms) k) := by
  obtain ⟨ts, hc, _⟩ := gd_carved R hs h
  unfold few
  rw [hc]
  dsimp only
  obtain ⟨h1, h2, h3, h4⟩ := few_ok (ok := okB sh W b G) (ms.length + 1) ms (Nat.lt_succ_self _)
  exact ⟨gd_ok.mp (h3 (gd_ok.mpr h)), h1, h2, fun k hk hg => by have := h4 k hk; rw [gd_ok.mpr hg] at this; cases this⟩
theorem gd_prefix (R : Rect W b) (hs : ∀ c ∈ sh, c.1.length ≤ 26) (ms : List Mv) : Gd sh W b (carved sh W b ms).1 (ms.take (carved sh W b ms).2.1.length) :=
  run_pre ms s0 b hs R rfl (s0_ok (sh := sh) R.w0 R.ne)
end
end GG
set_option linter.all false
set_option maxRecDepth 100000
set_option maxHeartbeats 4000000
namespace GG
open PySem PySem.Spec PyProof.Rows L2 MV
/-! ### told apart -/
def dRow (W : Nat) (g g' : Grid) (y : Nat) : Option Nat := (List.range W).find? fun x : Nat => !decide (hAt g x y = hAt g' x y)
def dif (W : Nat) (g g' : Grid) : Option (Nat × Nat) := match (List.range g.length).find? fun y => (dRow W g g' y).isSome with
  | none => none
  | some y => (dRow W g g' y).map fun x => (x, y)
abbrev wDif (g g' : Grid) (p : Nat × Nat) : PyData := .tuple [.int p.1, .int p.2, .int (hAt g p.1 p.2), .int (hAt g' p.1 p.2)]
def eDif (W : Nat) (g g' : Grid) : PyData := match dif W g g' with
  | none => .none
  | some p => wDif g g' p
section
variable {W : Nat} {g g' : Grid}
theorem dRow_comm (y : Nat) : dRow W g g' y = dRow W g' g y := by
  unfold dRow; congr 1; funext x; simp only [eq_comm]
theorem dif_comm (h : g.length = g'.length) : dif W g g' = dif W g' g := by
  unfold dif
  have : (fun y => (dRow W g g' y).isSome) = fun y => (dRow W g' g y).isSome := by funext y; rw [dRow_comm]
  rw [this, h]
  split
  · rfl
  · rw [dRow_comm]
theorem dif_self : dif W g g = none := by
  unfold dif
  have : (List.range g.length).find? (fun y => (dRow W g g y).isSome) = none := by
    rw [List.find?_eq_none]
    intro y _ hs
    unfold dRow at hs
    rw [List.isSome_find?, List.any_eq_true] at hs
    obtain ⟨x, _, hx⟩ := hs
    simp at hx
  rw [this]
theorem dif_none (R : Rect W g) (R' : Rect W g') (h : g.length = g'.length) : dif W g g' = none ↔ g = g' := by
  constructor
  · intro hd
    refine grid_ext R R' h fun x y x0 x1 y0 y1 => ?_
    refine Classical.byContradiction fun hne => ?_
    have hs : (dRow W g g' y.toNat).isSome = true := by
      unfold dRow
      rw [List.isSome_find?, List.any_eq_true]
      refine ⟨x.toNat, List.mem_range.mpr (by omega), ?_⟩
      rw [show ((x.toNat : Nat) : Int) = x by omega, show ((y.toNat : Nat) : Int) = y by omega]
      simp [hne]
    unfold dif at hd
    split at hd
    · rename_i hf
      rw [List.find?_eq_none] at hf
      exact hf y.toNat (List.mem_range.mpr (by omega)) hs
    · rename_i y' hf
      have := List.find?_some hf
      rw [Option.map_eq_none_iff] at hd
      rw [hd] at this; cases this
  · rintro rfl; exact dif_self
theorem apart_eq {sh : List Cutr} {b : Grid} (R : Rect W b) (hs : ∀ c ∈ sh, c.1.length ≤ 26) (ms os : List Mv) (hm : ms.length ≤ 90000) (ho : os.length ≤ 90000) :
    F_told_apart [.lf (eBed b), .lf (.list (sh.map eCut)), .lf (eMs ms), .lf (eMs os)] = .ok (.lf (eDif W (carved sh W b ms).1 (carved sh W b os).1)) [some (.lf (eBed b)), some (.lf (.list (sh.map eCut))), some (.lf (eMs ms)), some (.lf (eMs os))] := by
  have c1 := carved_eq R hs ms hm
  have c2 := carved_eq R hs os ho
  obtain ⟨R1, l1, _⟩ := carveP_ok hs ms R rfl (s0_ok (sh := sh) R.w0 R.ne)
  obtain ⟨R2, l2, _⟩ := carveP_ok hs os R rfl (s0_ok (sh := sh) R.w0 R.ne)
  rw [show carveP sh W b.length s0 b ms = carved sh W b ms from rfl] at R1 l1
  rw [show carveP sh W b.length s0 b os = carved sh W b os from rfl] at R2 l2
  generalize carved sh W b ms = p at *
  generalize carved sh W b os = p' at *
  obtain ⟨g, t, f⟩ := p
  obtain ⟨g', t', f'⟩ := p'
  dsimp only at R1 l1 R2 l2 ⊢
  have R := R1
  have R' := R2
  have h : g'.length = g.length := by omega
  have hrb : rOk (g.length : Int) = true := rOk_nat (Nat.lt_of_le_of_lt R.le (by decide))
  have hrw : rOk (W : Int) = true := rOk_nat (Nat.lt_of_le_of_lt R.wl (by decide))
  generalize hO0 : some (O.lf (eBed b)) = O0
  generalize hO1 : some (O.lf (.list (sh.map eCut))) = O1
  generalize hO2 : some (O.lf (eMs ms)) = O2
  generalize hO3 : some (O.lf (eMs os)) = O3
  have inner : ∀ (y : Nat) (o7 : Option O), y < g.length → ∃ k7, vFor (tgName 7) L_told_apart_1 (rng 0 W) [O0, O1, O2, O3, some (.lf (eBed g)), some (.lf (eBed g')), some (.lf (.int y)), o7] = .ok (match dRow W g g' y with | some x => .ret (.lf (wDif g g' (x, y))) | none => .nx) [O0, O1, O2, O3, some (.lf (eBed g)), some (.lf (eBed g')), some (.lf (.int y)), k7] := fun y o7 hy => by
    rw [rng_map]
    obtain ⟨e', ⟨k7, rfl⟩, hL⟩ := vFor_find (gt := tgName 7) (body := L_told_apart_1) (f := fun i : Nat => PyData.int (i : Int)) (fun x : Nat => !decide (hAt g x y = hAt g' x y)) (fun x => .lf (wDif g g' (x, y))) (fun e => ∃ k7, e = [O0, O1, O2, O3, some (.lf (eBed g)), some (.lf (eBed g')), some (.lf (.int y)), k7]) (List.range W) [O0, O1, O2, O3, some (.lf (eBed g)), some (.lf (eBed g')), some (.lf (.int y)), o7] ⟨o7, rfl⟩ (by
      rintro x hx e ⟨k7, rfl⟩
      rw [List.mem_range] at hx
      obtain ⟨r, hr1, hr2⟩ := R.at (x := (x : Int)) (y := (y : Int)) (by omega) (by omega) (by omega) (by omega)
      obtain ⟨q, hq1, hq2⟩ := R'.at (x := (x : Int)) (y := (y : Int)) (by omega) (by omega) (by omega) (by omega)
      refine ⟨[O0, O1, O2, O3, some (.lf (eBed g)), some (.lf (eBed g')), some (.lf (.int y)), some (.lf (.int x))], rfl, fun z => ?_, fun z => ?_⟩
      · have z' : hAt g x y = hAt g' x y := by simpa using z
        exact ⟨_, .inl (by simp [-List.map_map, L_told_apart_1, hr1, hr2, hq1, hq2, z']), some (.lf (.int x)), rfl⟩
      · have z' : ¬ hAt g x y = hAt g' x y := by simpa using z
        exact ⟨_, by simp [-List.map_map, L_told_apart_1, hr1, hr2, hq1, hq2, z', line1], some (.lf (.int x)), rfl⟩)
    exact ⟨k7, by
      unfold dRow
      generalize (List.range W).find? (fun x : Nat => !decide (hAt g x y = hAt g' x y)) = o at hL ⊢
      cases o <;> exact hL⟩
  obtain ⟨e', ⟨k6, k7, rfl⟩, hL⟩ := vFor_find (gt := tgName 6) (body := L_told_apart_0) (f := fun i : Nat => PyData.int (i : Int)) (fun y : Nat => (dRow W g g' y).isSome) (fun y => .lf (match dRow W g g' y with | some x => wDif g g' (x, y) | none => .none)) (fun e => ∃ k6 k7, e = [O0, O1, O2, O3, some (.lf (eBed g)), some (.lf (eBed g')), k6, k7]) (List.range g.length) [O0, O1, O2, O3, some (.lf (eBed g)), some (.lf (eBed g')), none, none] ⟨none, none, rfl⟩ (by
    rintro y hy e ⟨k6, k7, rfl⟩
    rw [List.mem_range] at hy
    obtain ⟨j7, hI⟩ := inner y k7 hy
    have hat := atI_map (g := fun r : List Int => PyData.list (r.map .int)) (l := g) (i := (y : Int)) [] (by omega) (by omega)
    have hlen := R.row (y := (y : Int)) (by omega) (by omega)
    generalize g.getD (y : Int).toNat [] = r at hat hlen
    have hB : L_told_apart_0 [O0, O1, O2, O3, some (.lf (eBed g)), some (.lf (eBed g')), some (.lf (.int y)), k7] = vFor (tgName 7) L_told_apart_1 (rng 0 W) [O0, O1, O2, O3, some (.lf (eBed g)), some (.lf (eBed g')), some (.lf (.int y)), k7] := by
      simp [-List.map_map, L_told_apart_0, hat, hlen, hrw]
    refine ⟨[O0, O1, O2, O3, some (.lf (eBed g)), some (.lf (eBed g')), some (.lf (.int y)), k7], rfl, fun z => ?_, fun z => ?_⟩
    · rw [hB, hI]
      cases hd : dRow W g g' y with
      | none => exact ⟨_, .inl rfl, _, _, rfl⟩
      | some x => rw [hd] at z; cases z
    · rw [hB, hI]
      cases hd : dRow W g g' y with
      | none => rw [hd] at z; cases z
      | some x => exact ⟨_, rfl, _, _, rfl⟩)
  rw [← rng_map] at hL
  subst hO0 hO1 hO2 hO3
  unfold eDif dif
  cases hf : (List.range g.length).find? fun y => (dRow W g g' y).isSome with
  | none =>
    rw [hf] at hL
    simp [-List.map_map, F_told_apart, fFun, B_told_apart, c1, c2, hrb, hL]
  | some y =>
    rw [hf] at hL
    have := List.find?_some hf
    cases hd : dRow W g g' y with
    | none => rw [hd] at this; cases this
    | some x =>
      simp only [hd] at hL
      simp [-List.map_map, F_told_apart, fFun, B_told_apart, c1, c2, hrb, hL, hd]
end
end GG
set_option linter.all false
set_option maxRecDepth 100000
set_option maxHeartbeats 4000000
namespace GG
open PySem PySem.Spec PyProof.Rows L2 MV
/-! The walker of k62, k63, k65: what lies under, the way. -/
theorem gMinI (i j : Int) : gMin [.lf (.int i), .lf (.int j)] = some (.int (min i j)) := rfl
/-- the bed, frozen or one's own -/
def HV (g : Grid) (h : O) : Prop := h = oG g ∨ h = .lf (eBed g)
abbrev eH (g : Grid) (c : Int × Int) : List Key × O := ([.inl c.1, .inl c.2], .lf (.int (hAt g c.1 c.2)))
theorem dPut_eH (g : Grid) (acc : List (Int × Int)) (c : Int × Int) : dPut [.inl c.1, .inl c.2] (.lf (.int (hAt g c.1 c.2))) (acc.map (eH g)) = (cset acc c).map (eH g) := by
  have ha : ((acc.map (eH g)).any fun p => decide (p.1 = [Sum.inl c.1, Sum.inl c.2])) = decide (c ∈ acc) := by
    induction acc with
    | nil => simp
    | cons a acc ih =>
      rw [List.map_cons, List.any_cons, ih]
      obtain ⟨a1, a2⟩ := a
      obtain ⟨c1, c2⟩ := c
      simp only [eH, List.cons.injEq, Sum.inl.injEq, and_true, List.mem_cons, Prod.mk.injEq, Bool.decide_or]
      congr 1
      rw [decide_eq_decide]
      constructor <;> rintro ⟨rfl, rfl⟩ <;> exact ⟨rfl, rfl⟩
  unfold dPut cset
  rw [ha]
  by_cases h : c ∈ acc
  · rw [if_pos (decide_eq_true h), if_pos h, List.map_map]
    refine List.map_congr_left fun a _ => ?_
    simp only [Function.comp]
    obtain ⟨a1, a2⟩ := a
    obtain ⟨c1, c2⟩ := c
    split
    · rename_i he
      simp only [List.cons.injEq, Sum.inl.injEq, and_true] at he
      obtain ⟨rfl, rfl⟩ := he
      rfl
    · rfl
  · rw [if_neg (by simpa using h), if_neg h, List.map_append]; rfl
section
variable {W : Nat} {g : Grid}
theorem wunder1 (R : Rect W g) {h : O} (hv : HV g h) (o1 : Option O) (px py : Int) (foot : List (Int × Int)) (hl : foot.length ≤ 100000) :
    ∃ k6 k7, vFor (tgAny 2 (tgCons (tgName 5) (tgCons (tgName 6) tgNil))) L__law_under_0 (foot.map wpair) [some h, o1, some (.lf (.int px)), some (.lf (.int py)), some (.lst []), none, none]
      = .ok .nx [some h, o1, some (.lf (.int px)), some (.lf (.int py)), some (.lst ((cellsU foot px py W g.length).map fun c => .lf (wpair c))), k6, k7] := by
  obtain ⟨r0, hz1, hz2⟩ := R.zero
  have hne := R.ne
  obtain ⟨e', hL, hl', k6, k7, rfl⟩ := vFor_map (gt := tgAny 2 (tgCons (tgName 5) (tgCons (tgName 6) tgNil))) (body := L__law_under_0) wpair foot (fun i e => (cellsU (foot.take i) px py W g.length).length ≤ i ∧ ∃ k6 k7, e = [some h, o1, some (.lf (.int px)), some (.lf (.int py)), some (.lst ((cellsU (foot.take i) px py W g.length).map fun c => .lf (wpair c))), k6, k7]) [some h, o1, some (.lf (.int px)), some (.lf (.int py)), some (.lst []), none, none] ⟨by simp [cellsU], none, none, by simp [cellsU]⟩ (by
    rintro i ⟨dx, dy⟩ e hi ⟨hl', k6, k7, rfl⟩
    have hil := (List.getElem?_eq_some_iff.mp hi).1
    have hst : cellsU (foot.take (i + 1)) px py W g.length = if inbX W g.length px py (dx, dy) then cellsU (foot.take i) px py W g.length ++ [(px + dx, py + dy)] else cellsU (foot.take i) px py W g.length := by
      unfold cellsU
      rw [List.take_add_one, hi]
      by_cases hin : inbX W g.length px py (dx, dy) = true
      · simp [hin]
      · simp [hin]
    have hlen : (cellsU (foot.take (i + 1)) px py W g.length).length ≤ i + 1 := by
      rw [hst]
      split
      · rw [List.length_append, List.length_singleton]; omega
      · omega
    refine ⟨[some h, o1, some (.lf (.int px)), some (.lf (.int py)), some (.lst ((cellsU (foot.take i) px py W g.length).map fun c => .lf (wpair c))), some (.lf (.int dx)), some (.lf (.int dy))], [some h, o1, some (.lf (.int px)), some (.lf (.int py)), some (.lst ((cellsU (foot.take (i + 1)) px py W g.length).map fun c => .lf (wpair c))), some (.lf (.int dx)), some (.lf (.int dy))], by simp [wpair], .inl ?_, hlen, _, _, rfl⟩
    rw [hst]
    have hsz : ((cellsU (foot.take i) px py W g.length).map fun c => O.lf (wpair c)).length < 16777216 := by rw [List.length_map]; omega
    have hl0 : (g.getD (0 : Int).toNat []).length = W := R.row (by decide) (by omega)
    have g1 : ∀ up : O → En, gIx (.pl (oG g) up) (.lf (.int 0)) = some (.pl (oR (g.getD (0 : Int).toNat [])) fun o' => up (.lst ((g.map fun r => oR r).set (0 : Int).toNat o'))) := fun up => gIx_oG (g := g) (y := 0) (up := up) (by decide) (by omega)
    by_cases hin : inbX W g.length px py (dx, dy) = true
    · rw [if_pos hin]
      have hap : ((cellsU (foot.take i) px py W g.length ++ [(px + dx, py + dy)]).map fun c => O.lf (wpair c)) = ((cellsU (foot.take i) px py W g.length).map fun c => O.lf (wpair c)) ++ [.lf (wpair (px + dx, py + dy))] := by simp
      rw [hap]
      generalize ((cellsU (foot.take i) px py W g.length).map fun c => O.lf (wpair c)) = ac at hsz ⊢
      obtain ⟨a1, a2, a3, a4⟩ := inbX_iff.mp hin
      dsimp only at a1 a2 a3 a4
      rcases hv with rfl | rfl
      · have hlg : (g.map fun r => oR r).length = g.length := List.length_map _
        have hlq : ((g.getD (0 : Int).toNat []).map fun i => O.lf (.int i)).length = W := by rw [List.length_map]; exact hl0
        simp only [oG, oR] at g1 hlg ⊢
        generalize ((g.getD (0 : Int).toNat []).map fun i => O.lf (.int i)) = q0 at g1 hlq
        generalize (g.map fun r => O.lst (r.map fun i => O.lf (.int i))) = gl at g1 hlg ⊢
        simp [-List.map_map, L__law_under_0, a1, a2, a3, a4, g1, hlq, hlg, line1, hsz, wpair]
      · simp [-List.map_map, L__law_under_0, a1, a2, a3, a4, hz1, hz2, line1, hsz, wpair]
    · rw [if_neg hin]
      generalize ((cellsU (foot.take i) px py W g.length).map fun c => O.lf (wpair c)) = ac at hsz ⊢
      have hno : ¬ (0 ≤ py + dy ∧ py + dy < (g.length : Int) ∧ 0 ≤ px + dx ∧ px + dx < (W : Int)) := fun t => hin (inbX_iff.mpr ⟨t.2.2.1, t.2.2.2, t.1, t.2.1⟩)
      rcases hv with rfl | rfl
      · have hlg : (g.map fun r => oR r).length = g.length := List.length_map _
        have hlq : ((g.getD (0 : Int).toNat []).map fun i => O.lf (.int i)).length = W := by rw [List.length_map]; exact hl0
        simp only [oG, oR] at g1 hlg ⊢
        generalize ((g.getD (0 : Int).toNat []).map fun i => O.lf (.int i)) = q0 at g1 hlq
        generalize (g.map fun r => O.lst (r.map fun i => O.lf (.int i))) = gl at g1 hlg ⊢
        by_cases a1 : 0 ≤ px + dx
        · by_cases a2 : px + dx < (W : Int)
          · by_cases a3 : 0 ≤ py + dy
            · have a4 : ¬ py + dy < (g.length : Int) := fun t => hno ⟨a3, t, a1, a2⟩
              simp [-List.map_map, L__law_under_0, a1, a2, a3, a4, g1, hlq, hlg]
            · simp [-List.map_map, L__law_under_0, a1, a2, a3, g1, hlq, hlg]
          · simp [-List.map_map, L__law_under_0, a1, a2, g1, hlq, hlg]
        · simp [-List.map_map, L__law_under_0, a1, g1, hlq, hlg]
      · by_cases a1 : 0 ≤ px + dx
        · by_cases a2 : px + dx < (W : Int)
          · by_cases a3 : 0 ≤ py + dy
            · have a4 : ¬ py + dy < (g.length : Int) := fun t => hno ⟨a3, t, a1, a2⟩
              simp [-List.map_map, L__law_under_0, a1, a2, a3, a4, hz1, hz2]
            · simp [-List.map_map, L__law_under_0, a1, a2, a3, hz1, hz2]
          · simp [-List.map_map, L__law_under_0, a1, a2, hz1, hz2]
        · simp [-List.map_map, L__law_under_0, a1, hz1, hz2])
  rw [List.take_length] at hL
  exact ⟨k6, k7, hL⟩
theorem wunder (R : Rect W g) {h : O} (hv : HV g h) (foot : List (Int × Int)) (px py : Int) (hf : foot.length ≤ 26) :
    F__law_under [h, .lf (.list (foot.map wpair)), .lf (.int px), .lf (.int py)] = .ok (.lf (.list ((cellsU foot px py W g.length).map wpair))) [some h, some (.lf (.list (foot.map wpair))), some (.lf (.int px)), some (.lf (.int py))] := by
  obtain ⟨k6, k7, hL⟩ := wunder1 R hv (some (.lf (.list (foot.map wpair)))) px py foot (by omega)
  have he : (O.lst ((cellsU foot px py W g.length).map fun c => .lf (wpair c))).er = some (.list ((cellsU foot px py W g.length).map wpair)) := by
    rw [show ((cellsU foot px py W g.length).map fun c => O.lf (wpair c)) = ((cellsU foot px py W g.length).map wpair).map .lf from (List.map_map ..).symm]
    simp [-List.map_map]
  generalize ((cellsU foot px py W g.length).map fun c => O.lf (wpair c)) = q at *
  simp [-List.map_map, -er_lst, F__law_under, fFun, B__law_under, hL, he]
end
theorem wway (x y z : Int) (ax : Ax) (to : Int) (hx : -1000 ≤ x ∧ x ≤ 1000) (hy : -1000 ≤ y ∧ y ≤ 1000) (ht : -10000 ≤ to ∧ to ≤ 10000) : F__law_way [.lf (.tuple [.int x, .int y, .int z]), .lf (.str ax.s), .lf (.int to)] = .ok (.lf (.list ((placesB x y ax to).map wpair))) [some (.lf (.tuple [.int x, .int y, .int z])), some (.lf (.str ax.s)), some (.lf (.int to))] := by
  cases ax with
  | z => simp [F__law_way, fFun, B__law_way, placesB, wpair, line1]
  | x =>
    have r1 : rOk (min x to) = true := rOk_of (by omega) (by omega)
    have r2 : rOk (max x to + 1) = true := rOk_of (by omega) (by omega)
    obtain ⟨e', ⟨a, rfl⟩, hL⟩ := vLc_map (vs := [6]) (gt := tgName 6) (tt := fYes) (fe := C__law_way_0) (f := fun k : Nat => .int (min x to + (k : Int))) (fun k : Nat => wpair (min x to + (k : Int), y)) (fun e => ∃ a, e = [some (.lf (.tuple [.int x, .int y, .int z])), some (.lf (.str "x")), some (.lf (.int to)), some (.lf (.int x)), some (.lf (.int y)), some (.lf (.int z)), a]) (List.range (max x to + 1 - min x to).toNat) [some (.lf (.tuple [.int x, .int y, .int z])), some (.lf (.str "x")), some (.lf (.int to)), some (.lf (.int x)), some (.lf (.int y)), some (.lf (.int z)), none] ⟨none, rfl⟩ (by rw [List.length_range, line1]; omega) (by
      rintro k _ e ⟨a, rfl⟩
      exact ⟨_, _, _, rfl, rfl, by simp [C__law_way_0, wipeE, line1, wpair]; rfl, _, rfl⟩)
    rw [← rng_lo] at hL
    have hp : (List.range (max x to + 1 - min x to).toNat).map (fun k : Nat => wpair (min x to + (k : Int), y)) = (placesB x y .x to).map wpair := by unfold placesB; rw [List.map_map]; rfl
    rw [hp] at hL
    simp [-List.map_map, F__law_way, fFun, B__law_way, okOwn, gMinI, gMax_ii, r1, r2, hL, restE]
  | y =>
    have r1 : rOk (min y to) = true := rOk_of (by omega) (by omega)
    have r2 : rOk (max y to + 1) = true := rOk_of (by omega) (by omega)
    obtain ⟨e', ⟨a, rfl⟩, hL⟩ := vLc_map (vs := [6]) (gt := tgName 6) (tt := fYes) (fe := C__law_way_1) (f := fun k : Nat => .int (min y to + (k : Int))) (fun k : Nat => wpair (x, min y to + (k : Int))) (fun e => ∃ a, e = [some (.lf (.tuple [.int x, .int y, .int z])), some (.lf (.str "y")), some (.lf (.int to)), some (.lf (.int x)), some (.lf (.int y)), some (.lf (.int z)), a]) (List.range (max y to + 1 - min y to).toNat) [some (.lf (.tuple [.int x, .int y, .int z])), some (.lf (.str "y")), some (.lf (.int to)), some (.lf (.int x)), some (.lf (.int y)), some (.lf (.int z)), none] ⟨none, rfl⟩ (by rw [List.length_range, line1]; omega) (by
      rintro k _ e ⟨a, rfl⟩
      exact ⟨_, _, _, rfl, rfl, by simp [C__law_way_1, wipeE, line1, wpair]; rfl, _, rfl⟩)
    rw [← rng_lo] at hL
    have hp : (List.range (max y to + 1 - min y to).toNat).map (fun k : Nat => wpair (x, min y to + (k : Int))) = (placesB x y .y to).map wpair := by unfold placesB; rw [List.map_map]; rfl
    rw [hp] at hL
    simp [-List.map_map, F__law_way, fFun, B__law_way, okOwn, gMinI, gMax_ii, r1, r2, hL, restE]
section
variable {W : Nat} {g : Grid}
/-- its highest -/
theorem valsI_eH : ∀ l : List (Int × Int), valsI (l.map (eH g)) = some (l.map fun c => hAt g c.1 c.2)
  | [] => rfl
  | c :: l => by
    rw [List.map_cons, List.map_cons]
    show (valsI (l.map (eH g))).map (hAt g c.1 c.2 :: ·) = _
    rw [valsI_eH l]; rfl
theorem gMaxD_eH {l : List (Int × Int)} (hne : l ≠ []) : ∃ t : Int, gMaxD (.dcT (l.map (eH g))) = some (.int t) ∧ (∀ m, m < t ↔ metP g l m = true) ∧ ∃ c ∈ l, hAt g c.1 c.2 = t := by
  have hne' : (l.map fun c : Int × Int => hAt g c.1 c.2) ≠ [] := by simpa using hne
  obtain ⟨m1, m2⟩ := maxL_spec hne'
  refine ⟨maxL (l.map fun c : Int × Int => hAt g c.1 c.2), ?_, fun m => ⟨fun h => ?_, fun h => ?_⟩, ?_⟩
  · show (match valsI (l.map (eH g)) with
      | some (n :: ns) => some (PyData.int (maxL (n :: ns)))
      | _ => none) = _
    rw [valsI_eH]
    cases l with
    | nil => exact absurd rfl hne
    | cons a l => rfl
  · obtain ⟨c, hc, e⟩ := List.mem_map.mp m1
    cases hm : metP g l m with
    | true => rfl
    | false => have := met_false.mp hm c hc; omega
  · rcases Int.lt_or_le m (maxL (l.map fun c : Int × Int => hAt g c.1 c.2)) with h1 | h1
    · exact h1
    · have : metP g l m = false := met_false.mpr fun c hc => by
        have := m2 _ (List.mem_map.mpr ⟨c, hc, rfl⟩); omega
      rw [this] at h; cases h
  · obtain ⟨c, hc, e⟩ := List.mem_map.mp m1
    exact ⟨c, hc, e⟩
theorem keys_eH (g : Grid) (l : List (Int × Int)) : ((l.map (eH g)).map fun p : List Key × O => PyData.tuple (p.1.map unKey)) = l.map wpair := by
  rw [List.map_map]; rfl
end
end GG
set_option linter.all false
set_option maxRecDepth 100000
set_option maxHeartbeats 4000000
namespace GG
open PySem PySem.Spec PyProof.Rows L2 MV
/-! The walker: what a move does. -/
structure HSt where
  h : Option Int
  x : Int
  y : Int
  z : Int
abbrev eHold : Option Int → PyData
  | none => .none
  | some n => .int n
abbrev ePl (s : HSt) : PyData := .tuple [.int s.x, .int s.y, .int s.z]
abbrev oHS (s : HSt) : O := .lst [.lf (eHold s.h), .lf (ePl s)]
def hC (sh : List Cutr) (s : HSt) : CSt := ⟨s.h.bind fun n => sh[n.toNat]?, s.x, s.y, s.z⟩
structure HsOk (sh : List Cutr) (W H : Nat) (s : HSt) : Prop where
  h : ∀ n, s.h = some n → 0 ≤ n ∧ n < sh.length
  x : 0 ≤ s.x ∧ s.x < W
  y : 0 ≤ s.y ∧ s.y < H
  z : 0 ≤ s.z ∧ s.z ≤ 1000
def hdone (s : HSt) : Mv → HSt
  | .hold n => { s with h := some n }
  | .go _ .x to => { s with x := to }
  | .go _ .y to => { s with y := to }
  | .go _ .z to => { s with z := to }
structure CutZ (c : Cutr) : Prop where
  zero : (0, 0) ∈ c.1
  len : c.1.length ≤ 26
section
variable {W : Nat} {g : Grid} {sh : List Cutr}
theorem HsOk.sok {s : HSt} {H : Nat} (S : HsOk sh W H s) : SOk sh W H (hC sh s) := ⟨S.x, S.y, S.z, fun c h => by
  unfold hC at h
  dsimp only at h
  cases hh : s.h with
  | none => rw [hh] at h; cases h
  | some n => rw [hh] at h; exact List.mem_of_getElem? h⟩
theorem hdone_hC {s : HSt} {m : Mv} (h : (doneP sh W g.length (hC sh s) g m).f = none) : hC sh (hdone s m) = (doneP sh W g.length (hC sh s) g m).s := by
  rcases stp_of h with ⟨n, rfl, h0, h1, hz⟩ | ⟨ax, to, c, rfl, hc, hm, hl⟩ | ⟨ax, to, c, rfl, hc, hm, hl⟩
  · rw [done_hold h0 h1 hz]; rfl
  · rw [done_fast hc hm hl]
    cases ax <;> rfl
  · rw [done_slow hc hm hl]
    cases ax <;> rfl
theorem hdone_ok {s : HSt} {m : Mv} {H : Nat} (S : HsOk sh W H s) (h : (doneP sh W H (hC sh s) g m).f = none) : HsOk sh W H (hdone s m) := by
  rcases stp_of h with ⟨n, rfl, h0, h1, hz⟩ | ⟨ax, to, c, rfl, hc, hm, hl⟩ | ⟨ax, to, c, rfl, hc, hm, hl⟩
  · exact ⟨fun k hk => by cases hk; exact ⟨h0, h1⟩, S.x, S.y, S.z⟩
  all_goals
    obtain ⟨_, _, h0, h1⟩ := moveF_none hm
    cases ax <;> dsimp only [mostOf] at h1
    · exact ⟨S.h, ⟨h0, by show to < _; omega⟩, S.y, S.z⟩
    · exact ⟨S.h, S.x, ⟨h0, by show to < _; omega⟩, S.z⟩
    · exact ⟨S.h, S.x, S.y, ⟨h0, h1⟩⟩
theorem gIx_h0 {a b : PyData} {up : O → En} : gIx (.pl (.lst [.lf a, .lf b]) up) (.lf (.int 0)) = some (.lf a) := by simp [gIx, ixN]
theorem gIx_h1 {a b : PyData} {up : O → En} : gIx (.pl (.lst [.lf a, .lf b]) up) (.lf (.int 1)) = some (.lf b) := by simp [gIx, ixN]
/-- the cells, with their heights -/
theorem wfill1 (R : Rect W g) (cs acc : List (Int × Int)) (hin : In W g.length cs) (hl : acc.length + cs.length ≤ 100000) (o1 o2 o3 o4 o5 o6 o7 o8 o10 o11 o12 : Option O) :
    ∃ k, vFor (tgName 12) L__law_done_1 (cs.map wpair) [some (oG g), o1, o2, o3, o4, o5, o6, o7, o8, some (.dcT (acc.map (eH g))), o10, o11, o12, none, none] = .ok .nx [some (oG g), o1, o2, o3, o4, o5, o6, o7, o8, some (.dcT ((cs.foldl cset acc).map (eH g))), o10, o11, k, none, none] := by
  obtain ⟨e', hL, hlen, k, rfl⟩ := vFor_map (gt := tgName 12) (body := L__law_done_1) wpair cs (fun i e => ((cs.take i).foldl cset acc).length ≤ acc.length + i ∧ ∃ k, e = [some (oG g), o1, o2, o3, o4, o5, o6, o7, o8, some (.dcT (((cs.take i).foldl cset acc).map (eH g))), o10, o11, k, none, none]) [some (oG g), o1, o2, o3, o4, o5, o6, o7, o8, some (.dcT (acc.map (eH g))), o10, o11, o12, none, none] ⟨by simp, o12, by simp⟩ (by
    rintro i ⟨cx, cy⟩ e hi ⟨hlen, k, rfl⟩
    have hil := (List.getElem?_eq_some_iff.mp hi).1
    obtain ⟨h1, h2, h3, h4⟩ := hin _ (List.mem_of_getElem? hi)
    dsimp only at h1 h2 h3 h4
    have hsz : ((cs.take i).foldl cset acc).length < 16777216 := by omega
    have i1 := fun up => gIx_oG (g := g) (up := up) (y := cy) h3 h4
    have i2 : ∀ up : O → En, gIx (.pl (oR (g.getD cy.toNat [])) up) (.lf (.int cx)) = some (.lf (.int (hAt g cx cy))) := fun up => gIx_oR h1 (by rw [R.row h3 h4]; exact h2)
    have hst : (cs.take (i + 1)).foldl cset acc = cset ((cs.take i).foldl cset acc) (cx, cy) := by
      rw [List.take_add_one, hi, List.foldl_append]; rfl
    refine ⟨_, _, rfl, .inl ?_, ?_, some (.lf (wpair (cx, cy))), rfl⟩
    · simp only [List.set_cons_zero, List.set_cons_succ]
      rw [hst, ← dPut_eH]
      generalize ((cs.take i).foldl cset acc) = ac at hsz ⊢
      simp only [oG, oR] at i1 i2 ⊢
      generalize ((g.getD cy.toNat []).map fun i => O.lf (.int i)) = q1 at i1 i2
      generalize (g.map fun r => O.lst (r.map fun i => O.lf (.int i))) = gl at i1 ⊢
      simp [-List.map_map, L__law_done_1, wpair, i1, i2, line1, hsz]
    · rw [hst]
      have := cset_len ((cs.take i).foldl cset acc) (cx, cy)
      omega)
  rw [List.take_length] at hL
  exact ⟨k, hL⟩
theorem wfill (R : Rect W g) {foot : List (Int × Int)} {bite hn : Int} (hf : foot.length ≤ 26) (ps : List (Int × Int)) (hp : ps.length ≤ 1000) {pl : PyData} (hat : atI (sh.map eCut) hn = some (eCut (foot, bite))) (o3 o4 o5 o6 o7 o8 : Option O) :
    ∃ k10 k11 k12, vFor (tgAny 2 (tgCons (tgName 10) (tgCons (tgName 11) tgNil))) L__law_done_0 (ps.map wpair) [some (oG g), some (.lf (.list (sh.map eCut))), some (.lst [.lf (.int hn), .lf pl]), o3, o4, o5, o6, o7, o8, some (.dcT []), none, none, none, none, none]
      = .ok .nx [some (oG g), some (.lf (.list (sh.map eCut))), some (.lst [.lf (.int hn), .lf pl]), o3, o4, o5, o6, o7, o8, some (.dcT ((sweptL foot W g.length ps).map (eH g))), k10, k11, k12, none, none] := by
  have hlen : ∀ l : List (Int × Int), (l.flatMap fun p => cellsU foot p.1 p.2 W g.length).length ≤ 26 * l.length := by
    intro l
    induction l with
    | nil => simp
    | cons a l ih =>
      rw [List.flatMap_cons, List.length_append, List.length_cons]
      have := cellsU_len (foot := foot) (x := a.1) (y := a.2) (w := W) (h := g.length)
      omega
  obtain ⟨e', hL, k10, k11, k12, rfl⟩ := vFor_map (gt := tgAny 2 (tgCons (tgName 10) (tgCons (tgName 11) tgNil))) (body := L__law_done_0) wpair ps (fun i e => ∃ k10 k11 k12, e = [some (oG g), some (.lf (.list (sh.map eCut))), some (.lst [.lf (.int hn), .lf pl]), o3, o4, o5, o6, o7, o8, some (.dcT ((sweptL foot W g.length (ps.take i)).map (eH g))), k10, k11, k12, none, none]) [some (oG g), some (.lf (.list (sh.map eCut))), some (.lst [.lf (.int hn), .lf pl]), o3, o4, o5, o6, o7, o8, some (.dcT []), none, none, none, none, none] ⟨none, none, none, rfl⟩ (by
    rintro i ⟨px, py⟩ e hi ⟨k10, k11, k12, rfl⟩
    have hil := (List.getElem?_eq_some_iff.mp hi).1
    have hst : sweptL foot W g.length (ps.take (i + 1)) = (cellsU foot px py W g.length).foldl cset (sweptL foot W g.length (ps.take i)) := by
      unfold sweptL
      rw [List.take_add_one, hi, List.flatMap_append, List.foldl_append]
      simp
    have h1 : (sweptL foot W g.length (ps.take i)).length ≤ 26 * i := by
      unfold sweptL
      have := csets_len ((ps.take i).flatMap fun p => cellsU foot p.1 p.2 W g.length) []
      have := hlen (ps.take i)
      rw [List.length_take] at this
      simp only [List.length_nil] at *
      omega
    have hcl := cellsU_len (foot := foot) (x := px) (y := py) (w := W) (h := g.length)
    have hun := wunder R (h := oG g) (.inl rfl) foot px py hf
    obtain ⟨j, hS⟩ := wfill1 R (cellsU foot px py W g.length) (sweptL foot W g.length (ps.take i)) (fun c hc => cellsU_in hc) (by omega) (some (.lf (.list (sh.map eCut)))) (some (.lst [.lf (.int hn), .lf pl])) o3 o4 o5 o6 o7 o8 (some (.lf (.int px))) (some (.lf (.int py))) k12
    refine ⟨[some (oG g), some (.lf (.list (sh.map eCut))), some (.lst [.lf (.int hn), .lf pl]), o3, o4, o5, o6, o7, o8, some (.dcT ((sweptL foot W g.length (ps.take i)).map (eH g))), some (.lf (.int px)), some (.lf (.int py)), k12, none, none], [some (oG g), some (.lf (.list (sh.map eCut))), some (.lst [.lf (.int hn), .lf pl]), o3, o4, o5, o6, o7, o8, some (.dcT ((sweptL foot W g.length (ps.take (i + 1))).map (eH g))), some (.lf (.int px)), some (.lf (.int py)), j, none, none], by simp [wpair], .inl ?_, _, _, _, rfl⟩
    rw [hst]
    generalize (sweptL foot W g.length (ps.take i)).map (eH g) = k0 at hS ⊢
    generalize (cellsU foot px py W g.length).map wpair = cw at hS hun
    generalize ((cellsU foot px py W g.length).foldl cset (sweptL foot W g.length (ps.take i))).map (eH g) = k1 at hS ⊢
    simp only [oG] at hun hS ⊢
    generalize (g.map fun r => oR r) = gl at hun hS ⊢
    simp [-List.map_map, L__law_done_0, gIx_h0, hat, hun, hS])
  rw [List.take_length] at hL
  exact ⟨k10, k11, k12, hL⟩
/-- the cells cut down -/
theorem wcut (R : Rect W g) (cells : List (Int × Int)) (hin : In W g.length cells) (hnd : cells.Nodup) (L : Int) (o1 o2 o3 o4 o5 o6 o7 o10 o11 o12 o13 : Option O) :
    ∃ k10 k11, vFor (tgAny 2 (tgCons (tgName 10) (tgCons (tgName 11) tgNil))) L__law_done_2 (cells.map wpair) [some (oG g), o1, o2, o3, o4, o5, o6, o7, some (.lf (.int L)), some (.dcL (cells.map (eH g))), o10, o11, o12, o13, some (.lf (.int 0))]
      = .ok .nx [some (oG (cutP g cells L).1), o1, o2, o3, o4, o5, o6, o7, some (.lf (.int L)), some (.dcL (cells.map (eH g))), k10, k11, o12, o13, some (.lf (.int (cutP g cells L).2))] := by
  obtain ⟨e', hL, G, t, k10, k11, R', hl', hG, ht, rfl⟩ := vFor_map (gt := tgAny 2 (tgCons (tgName 10) (tgCons (tgName 11) tgNil))) (body := L__law_done_2) wpair cells (fun i e => ∃ (G : Grid) (t : Int) (k10 k11 : Option O), Rect W G ∧ G.length = g.length ∧ (∀ x y, InB W g.length x y → hAt G x y = if (x, y) ∈ cells.take i then min L (hAt g x y) else hAt g x y) ∧ t + tot G = tot g ∧ e = [some (oG G), o1, o2, o3, o4, o5, o6, o7, some (.lf (.int L)), some (.dcL (cells.map (eH g))), k10, k11, o12, o13, some (.lf (.int t))]) [some (oG g), o1, o2, o3, o4, o5, o6, o7, some (.lf (.int L)), some (.dcL (cells.map (eH g))), o10, o11, o12, o13, some (.lf (.int 0))] ⟨g, 0, o10, o11, R, rfl, by simp, by omega, rfl⟩ (by
    rintro i ⟨cx, cy⟩ e hi ⟨G, t, k10, k11, R', hl', hG, ht, rfl⟩
    have hmem : (cx, cy) ∈ cells := List.mem_of_getElem? hi
    have hil := (List.getElem?_eq_some_iff.mp hi).1
    obtain ⟨h1, h2, h3, h4⟩ := hin _ hmem
    dsimp only at h1 h2 h3 h4
    have hyg : cy < G.length := by rw [hl']; exact h4
    have hrow := R'.row h3 hyg
    have hxg : cx < (G.getD cy.toNat []).length := by rw [hrow]; exact h2
    have i1 := fun up => gIx_oG (g := G) (up := up) (y := cy) h3 hyg
    have i2 : ∀ up : O → En, gIx (.pl (oR (G.getD cy.toNat [])) up) (.lf (.int cx)) = some (.lf (.int (hAt G cx cy))) := fun up => gIx_oR h1 hxg
    have i3 : ixN (G.getD cy.toNat []).length cx = some cx.toNat := ixN_of h1 hxg
    have hnot : (cx, cy) ∉ cells.take i := fun hm => by
      obtain ⟨j, hj⟩ := List.mem_iff_getElem?.mp hm
      rw [List.getElem?_take] at hj
      split at hj
      · rename_i hji
        obtain ⟨hjl, ej⟩ := List.getElem?_eq_some_iff.mp hj
        obtain ⟨hil2, ei⟩ := List.getElem?_eq_some_iff.mp hi
        exact List.pairwise_iff_getElem.mp hnd j i hjl hil2 hji (ej.trans ei.symm)
      · cases hj
    have hGc : hAt G cx cy = hAt g cx cy := by rw [hG _ _ ⟨h1, h2, h3, h4⟩, if_neg hnot]
    have hst := tot_set R' (v := min (hAt g cx cy) L) h3 hyg h1 h2
    rw [hGc] at i2
    simp only [List.getD_eq_getElem?_getD] at i1 i2 i3
    refine ⟨[some (oG G), o1, o2, o3, o4, o5, o6, o7, some (.lf (.int L)), some (.dcL (cells.map (eH g))), some (.lf (.int cx)), some (.lf (.int cy)), o12, o13, some (.lf (.int t))], [some (oG (setAt G cx cy (min (hAt g cx cy) L))), o1, o2, o3, o4, o5, o6, o7, some (.lf (.int L)), some (.dcL (cells.map (eH g))), some (.lf (.int cx)), some (.lf (.int cy)), o12, o13, some (.lf (.int (t + max 0 (hAt g cx cy - L))))], by simp [wpair], .inl ?_, _, _, _, _, R'.set h3 hyg, by rw [setAt_len]; exact hl', fun x y hp => ?_, ?_, rfl⟩
    · simp [-List.map_map, L__law_done_2, gMax_ii, gMinI, i1, i2, i3, line1]
      simp [setAt, oR, List.map_set]
    · rw [hAt_set R' h3 hyg h1 h2 hp.2.2.1 (by rw [hl']; exact hp.2.2.2) hp.1 hp.2.1]
      rw [List.take_add_one, hi]
      by_cases e : x = cx ∧ y = cy
      · obtain ⟨rfl, rfl⟩ := e
        rw [if_pos ⟨rfl, rfl⟩, if_pos (by simp)]
        exact Int.min_comm _ _
      · rw [if_neg e, hG x y hp]
        have : ((x, y) ∈ cells.take i ++ (some (cx, cy)).toList) ↔ (x, y) ∈ cells.take i := by
          simp only [Option.toList_some, List.mem_append, List.mem_singleton, Prod.mk.injEq]
          exact ⟨fun t => t.elim id fun t => absurd t e, .inl⟩
        simp only [this]
    · rw [hst, hGc]; omega)
  rw [List.take_length] at hG
  obtain ⟨R2, l2⟩ := cutP_ok (low := L) R hin
  have hc2 : (cutP g cells L).2 + tot (cutP g cells L).1 = 0 + tot g := cuts_tot _ (g, 0) hin R rfl
  have hGe : G = (cutP g cells L).1 := grid_ext R' R2 (by omega) fun x y x0 x1 y0 y1 => by
    have hb : InB W g.length x y := ⟨x0, x1, y0, by omega⟩
    have e1 := hG x y hb
    have e2 : hAt (cutP g cells L).1 x y = if (x, y) ∈ cells then min L (hAt g x y) else hAt g x y := cuts_at (low := L) cells (g, 0) hin R rfl hb
    rw [e1, e2]
  have hte : t = (cutP g cells L).2 := by rw [hGe] at ht; omega
  exact ⟨k10, k11, by rw [hL, hGe, hte]⟩
end
end GG
set_option linter.all false
set_option maxRecDepth 100000
set_option maxHeartbeats 4000000
namespace GG
open PySem PySem.Spec PyProof.Rows L2 MV
theorem stepP {P : Rs Fl → Prop} {A B : En → Rs Fl} {env e1 : En} (h : A env = .ok .nx e1) (h2 : P (B e1)) : P (fSeq A B env) := by rw [fSeq_eq, h]; exact h2
theorem stepP2 {P : Rs Fl → Prop} {A B C : En → Rs Fl} {env e1 : En} (h : fSeq A B env = .ok .nx e1) (h2 : P (C e1)) : P (fSeq A (fSeq B C) env) := by
  have : fSeq A (fSeq B C) env = bindF (fSeq A B env) C := by
    unfold fSeq
    cases A env with
    | bad => rfl
    | ex c e => rfl
    | ok fl e => cases fl <;> rfl
  rw [this, h]
  exact h2
theorem stepE {P : Rs Fl → Prop} {A B : En → Rs Fl} {env e1 : En} {o : O} (h : A env = .ok (.ret o) e1) (h2 : P (.ok (.ret o) e1)) : P (fSeq A B env) := by rw [fSeq_eq, h]; exact h2
def DPost (h : O) (sh : List Cutr) (s : HSt) (m : Mv) (w : PyData) (r : Rs Fl) : Prop := ∃ k : List (Option O), r = .ok (.ret (.lf w)) (some h :: some (.lf (.list (sh.map eCut))) :: some (oHS s) :: some (.lf (eMv m)) :: k)
theorem DPost.fin {g g' : Grid} {sh : List Cutr} {s s' : HSt} {m : Mv} {w : PyData} (hb : DPost (oG g') sh s' m w (B__law_done [some (oG g), some (.lf (.list (sh.map eCut))), some (oHS s), some (.lf (eMv m)), none, none, none, none, none, none, none, none, none, none, none])) : F__law_done [oG g, .lf (.list (sh.map eCut)), oHS s, .lf (eMv m)] = .ok (.lf w) [some (oG g'), some (.lf (.list (sh.map eCut))), some (oHS s'), some (.lf (eMv m))] := by
  obtain ⟨k, hk⟩ := hb
  simp [-List.map_map, F__law_done, fFun]
  rw [hk]
  simp
def aI : Ax → Int
  | .x => 0 | .y => 1 | .z => 2
theorem idxAx' (ax : Ax) : gIndex [.str "x", .str "y", .str "z"] (.lf (.str ax.s)) = some (.int (aI ax)) := by
  have h1 : ∀ ax : Ax, SeqAt.shaped (.str ax.s) = true := fun ax => (Sh.str (strOk_ax ax)).shaped (by decide)
  have h2 : SeqAt.shaped (.list [.str "x", .str "y", .str "z"]) = true := (Sh.list (n := 0) fun d hd => by
    simp at hd
    rcases hd with rfl | rfl | rfl
    · exact Sh.str (strOk_ax .x)
    · exact Sh.str (strOk_ax .y)
    · exact Sh.str (strOk_ax .z)).shaped (by decide)
  have e1 : ("x" == "y" : Bool) = false := by decide +kernel
  show (if SeqAt.shaped (.list [.str "x", .str "y", .str "z"]) && SeqAt.shaped (.str ax.s) then (List.findIdx? (fun z => PyData.eqv z (.str ax.s)) [.str "x", .str "y", .str "z"]).map fun j : Nat => PyData.int (j : Int) else none) = _
  rw [h1, h2]
  have k : ∀ a b : Ax, PyData.eqv (.str a.s) (.str b.s) = decide (a = b) := fun a b => by rw [eqv_ss, axs_inj]
  have k2 : (List.findIdx? (fun z => PyData.eqv z (.str ax.s)) [.str "x", .str "y", .str "z"]) = List.findIdx? (fun a => decide (a = ax)) [Ax.x, .y, .z] := by
    show (List.findIdx? (fun z => PyData.eqv z (.str ax.s)) ([Ax.x, .y, .z].map fun a => PyData.str a.s)) = _
    rw [List.findIdx?_map]
    congr 1
    funext a
    exact k a ax
  rw [k2]
  cases ax <;> rfl

theorem sl0 {a b c : PyData} : gSl (.lf (.tuple [a, b, c])) none (some 0) = some (.tuple []) := rfl
theorem sl1 {a b c : PyData} : gSl (.lf (.tuple [a, b, c])) none (some 1) = some (.tuple [a]) := rfl
theorem sl2 {a b c : PyData} : gSl (.lf (.tuple [a, b, c])) none (some 2) = some (.tuple [a, b]) := rfl
theorem sr1 {a b c : PyData} : gSl (.lf (.tuple [a, b, c])) (some 1) none = some (.tuple [b, c]) := rfl
theorem sr2 {a b c : PyData} : gSl (.lf (.tuple [a, b, c])) (some 2) none = some (.tuple [c]) := rfl
theorem sr3 {a b c : PyData} : gSl (.lf (.tuple [a, b, c])) (some 3) none = some (.tuple []) := rfl
theorem catT {xs ys : List PyData} (h : xs.length + ys.length ≤ 16777216) : gCatT (.lf (.tuple xs)) (.lf (.tuple ys)) = some (.tuple (xs ++ ys)) := by
  show (if xs.length + ys.length ≤ sizeLine then _ else _) = _
  rw [if_pos (by rw [line1]; exact h)]
def DAns (r : Rp) : PyData := match r.f with | some f => .str f.s | none => .int r.t
theorem placesW_len {W H : Nat} {x y : Int} (hx : 0 ≤ x ∧ x < W) (hy : 0 ≤ y ∧ y < H) (hW : W ≤ 40) (hH : H ≤ 40) {ax : Ax} {to : Int} (h0 : 0 ≤ to) (h1 : to ≤ mostOf W H ax) : (placesB x y ax to).length ≤ 1000 := by
  cases ax with
  | x =>
    have h1 : to ≤ (W : Int) - 1 := h1
    unfold placesB
    rw [List.length_map, List.length_range]
    omega
  | y =>
    have h1 : to ≤ (H : Int) - 1 := h1
    unfold placesB
    rw [List.length_map, List.length_range]
    omega
  | z => simp [placesB]
section
variable {W : Nat} {g : Grid} {sh : List Cutr}
theorem wdone (R : Rect W g) {s : HSt} (S : HsOk sh W g.length s) (hcu : ∀ c ∈ sh, CutZ c) (m : Mv) :
    F__law_done [oG g, .lf (.list (sh.map eCut)), oHS s, .lf (eMv m)] = .ok (.lf (DAns (doneP sh W g.length (hC sh s) g m))) [some (oG (doneP sh W g.length (hC sh s) g m).g), some (.lf (.list (sh.map eCut))), some (oHS (if (doneP sh W g.length (hC sh s) g m).f = none then hdone s m else s)), some (.lf (eMv m))] := by
  have hle := R.le
  have hwl := R.wl
  obtain ⟨sh0, sx, sy, sz⟩ := s
  have hne := R.ne
  cases m with
  | hold n =>
    by_cases h1 : n < 0
    · have hd : doneP sh W g.length (hC sh ⟨sh0, sx, sy, sz⟩) g (.hold n) = ⟨hC sh ⟨sh0, sx, sy, sz⟩, g, 0, some .shelf⟩ := by simp [doneP, holdF, h1]
      rw [hd]
      exact DPost.fin ⟨[none, none, none, none, none, none, none, none, none, none, none], by simp [-List.map_map, B__law_done, eMv_h, h1, DAns]⟩
    · by_cases h2 : (sh.length : Int) ≤ n
      · have hd : doneP sh W g.length (hC sh ⟨sh0, sx, sy, sz⟩) g (.hold n) = ⟨hC sh ⟨sh0, sx, sy, sz⟩, g, 0, some .shelf⟩ := by simp [doneP, holdF, h1, h2]
        rw [hd]
        exact DPost.fin ⟨[none, none, none, none, none, none, none, none, none, none, none], by simp [-List.map_map, B__law_done, eMv_h, h1, h2, DAns]⟩
      · by_cases h3 : sz = 1000
        · subst h3
          have hd : doneP sh W g.length (hC sh ⟨sh0, sx, sy, 1000⟩) g (.hold n) = ⟨{ hC sh ⟨sh0, sx, sy, 1000⟩ with cut := sh[n.toNat]? }, g, 0, none⟩ := by simp [doneP, holdF, h1, h2, hC]
          rw [hd]
          exact DPost.fin ⟨[none, none, none, none, none, none, none, none, none, none, none], by simp [-List.map_map, B__law_done, eMv_h, h1, h2, DAns, gIx_h0, gIx_h1, hdone, ixN]⟩
        · have hd : doneP sh W g.length (hC sh ⟨sh0, sx, sy, sz⟩) g (.hold n) = ⟨hC sh ⟨sh0, sx, sy, sz⟩, g, 0, some .low⟩ := by simp [doneP, holdF, h1, h2, hC, h3]
          rw [hd]
          exact DPost.fin ⟨[none, none, none, none, none, none, none, none, none, none, none], by simp [-List.map_map, B__law_done, eMv_h, h1, h2, h3, DAns, gIx_h0, gIx_h1]⟩
  | go slow ax to =>
    have hnh : gEq (.lf (.str (wK slow))) (.lf (.str "hold")) = some (.bool false) := by cases slow <;> simp
    cases sh0 with
    | none =>
      have hd : doneP sh W g.length (hC sh ⟨none, sx, sy, sz⟩) g (.go slow ax to) = ⟨hC sh ⟨none, sx, sy, sz⟩, g, 0, some .bare⟩ := by simp [doneP, moveF, hC]
      rw [hd]
      exact DPost.fin ⟨[none, none, none, none, none, none, none, none, none, none, none], by simp [-List.map_map, B__law_done, eMv_g, hnh, DAns, gIx_h0, gIx_h1]⟩
    | some n =>
      obtain ⟨n0, n1⟩ := S.h n rfl
      obtain ⟨c, hcn⟩ : ∃ c, sh[n.toNat]? = some c := ⟨sh[n.toNat]'(by omega), List.getElem?_eq_getElem (by omega)⟩
      have hcut : (hC sh ⟨some n, sx, sy, sz⟩).cut = some c := hcn
      have hat : atI (sh.map eCut) n = some (eCut c) := by
        have := atI_map (g := eCut) (l := sh) (i := n) ([], 0) n0 n1
        rw [this, List.getD_eq_getElem?_getD, hcn]; rfl
      have hC := hcu c (List.mem_of_getElem? hcn)
      have hx : 0 ≤ sx ∧ sx < W := S.x
      have hy : 0 ≤ sy ∧ sy < g.length := S.y
      have hS1 : ∀ b : O, ∀ B : En → Rs Fl, ∀ P : Rs Fl → Prop, P (B [some b, some (.lf (.list (sh.map eCut))), some (oHS ⟨some n, sx, sy, sz⟩), some (.lf (eMv (.go slow ax to))), some (.lf (.str (wK slow))), some (.lf (.str ax.s)), some (.lf (.int to)), some (.lf (.int (aI ax))), none, none, none, none, none, none, none]) → P (fSeq (fIf (fTst (fBin true gEq (fBinV true gIx (fVar 3) (fC (.int 0))) (fC (.str "hold"))))
 (fSeq (fIf (fOrT (fTst (fBin true gLt (fBinV true gIx (fVar 3) (fC (.int 1))) (fC (.int 0)))) (fTst (fBin true gGe (fBinV true gIx (fVar 3) (fC (.int 1))) (fCB gLen (fCons true (fVar 1) (fNil))))))
 (fRet (fC (.str "shelf")))
 (fNext))
 (fSeq (fIf (fTst (fBin true gNe (fBinV true gIx (fBinV true gIx (fVar 2) (fC (.int 1))) (fC (.int 2))) (fC (.int 1000))))
 (fRet (fC (.str "low")))
 (fNext))
 (fSeq (fPut (fBinV true gIx (fVar 3) (fC (.int 1))) (fVar 2) (fC (.int 0)))
 (fRet (fC (.int 0))))))
 (fNext))
 (fSeq (fIf (fTst (fBin true gIsN (fBinV true gIx (fVar 2) (fC (.int 0))) (fC .none)))
 (fRet (fC (.str "bare")))
 (fNext))
 (fSeq (fAsg (tgAny 3 (tgCons (tgName 4) (tgCons (tgName 5) (tgCons (tgName 6) (tgNil))))) (fVar 3))
 (fSeq (fSet 7 (fIndex (fMk .list (fCons true (fC (.str "x")) (fCons true (fC (.str "y")) (fCons true (fC (.str "z")) (fNil))))) (fVar 5)))
 B))) [some b, some (.lf (.list (sh.map eCut))), some (oHS ⟨some n, sx, sy, sz⟩), some (.lf (eMv (.go slow ax to))), none, none, none, none, none, none, none, none, none, none, none]) := fun b B P h => by
        refine stepP (by simp [-List.map_map, eMv_g, hnh] <;> rfl) ?_
        refine stepP (by simp [-List.map_map, gIx_h0] <;> rfl) ?_
        refine stepP (by simp [-List.map_map, eMv_g] <;> rfl) ?_
        refine stepP (by simp [-List.map_map, idxAx', line1] <;> rfl) ?_
        exact h
      have hlow8 : ∀ b : O, (fSeq (fSet 8 (fBinV true gIx (fBinV true gIx (fVar 2) (fC (.int 1))) (fC (.int 2)))) (fIf (fTst (fBin true gEq (fVar 5) (fC (.str "z")))) (fSet 8 (fCB gMin (fCons true (fVar 8) (fCons true (fVar 6) (fNil))))) (fNext))) [some b, some (.lf (.list (sh.map eCut))), some (oHS ⟨some n, sx, sy, sz⟩), some (.lf (eMv (.go slow ax to))), some (.lf (.str (wK slow))), some (.lf (.str ax.s)), some (.lf (.int to)), some (.lf (.int (aI ax))), none, none, none, none, none, none, none] = .ok .nx [some b, some (.lf (.list (sh.map eCut))), some (oHS ⟨some n, sx, sy, sz⟩), some (.lf (eMv (.go slow ax to))), some (.lf (.str (wK slow))), some (.lf (.str ax.s)), some (.lf (.int to)), some (.lf (.int (aI ax))), some (.lf (.int (lowOf (GG.hC sh ⟨some n, sx, sy, sz⟩) ax to))), none, none, none, none, none, none] := fun b => by
        cases ax <;> simp [-List.map_map, gIx_h1, lowOf, GG.hC, gMinI]
      have hout : (fOrT (fTst (fBin true gLt (fVar 6) (fC (.int 0)))) (fTst (fBin true gGt (fVar 6) (fBinV true gIx (fMk .list (fCons true (fBin true gSub (fCB gLen (fCons true (fBinV true gIx (fVar 0) (fC (.int 0))) (fNil))) (fC (.int 1))) (fCons true (fBin true gSub (fCB gLen (fCons true (fVar 0) (fNil))) (fC (.int 1))) (fCons true (fC (.int 1000)) (fNil))))) (fVar 7))))) [some (oG g), some (.lf (.list (sh.map eCut))), some (oHS ⟨some n, sx, sy, sz⟩), some (.lf (eMv (.go slow ax to))), some (.lf (.str (wK slow))), some (.lf (.str ax.s)), some (.lf (.int to)), some (.lf (.int (aI ax))), none, none, none, none, none, none, none] = .ok (decide (to < 0 ∨ mostOf W g.length ax < to)) [some (oG g), some (.lf (.list (sh.map eCut))), some (oHS ⟨some n, sx, sy, sz⟩), some (.lf (eMv (.go slow ax to))), some (.lf (.str (wK slow))), some (.lf (.str ax.s)), some (.lf (.int to)), some (.lf (.int (aI ax))), none, none, none, none, none, none, none] := by
        have hl0 : (g.getD (0 : Int).toNat []).length = W := R.row (by decide) (by omega)
        have g1 : ∀ up : O → En, gIx (.pl (oG g) up) (.lf (.int 0)) = some (.pl (oR (g.getD (0 : Int).toNat [])) fun o' => up (.lst ((g.map fun r => oR r).set (0 : Int).toNat o'))) := fun up => gIx_oG (g := g) (y := 0) (up := up) (by decide) (by omega)
        have hlg : (g.map fun r => oR r).length = g.length := List.length_map _
        have hlq : ((g.getD (0 : Int).toNat []).map fun i => O.lf (.int i)).length = W := by rw [List.length_map]; exact hl0
        simp only [oG, oR] at g1 hlg ⊢
        generalize ((g.getD (0 : Int).toNat []).map fun i => O.lf (.int i)) = q0 at g1 hlq
        generalize (g.map fun r => O.lst (r.map fun i => O.lf (.int i))) = gl at g1 hlg ⊢
        by_cases h1 : to < 0
        · simp [-List.map_map, h1]
        · cases ax with
          | x => by_cases h2 : (W : Int) - 1 < to <;> simp [-List.map_map, h1, h2, g1, hlq, hlg, aI, mostOf, line1]
          | y => by_cases h2 : (g.length : Int) - 1 < to <;> simp [-List.map_map, h1, h2, g1, hlq, hlg, aI, mostOf, line1]
          | z => by_cases h2 : 1000 < to <;> simp [-List.map_map, h1, h2, g1, hlq, hlg, aI, mostOf, line1]
      by_cases ho : to < 0 ∨ mostOf W g.length ax < to
      · have hd : doneP sh W g.length (GG.hC sh ⟨some n, sx, sy, sz⟩) g (.go slow ax to) = ⟨GG.hC sh ⟨some n, sx, sy, sz⟩, g, 0, some .out⟩ := by
          simp only [doneP, moveF, hcut, if_pos ho]
        rw [hd]
        refine DPost.fin ?_
        unfold B__law_done
        refine hS1 _ _ _ ?_
        rw [decide_eq_true ho] at hout
        refine stepE (o := .lf (.str "out")) (by rw [fIf_eq, hout, Rs.bind_ok, if_pos rfl]; simp <;> rfl) ?_
        exact ⟨_, rfl⟩
      · obtain ⟨t0, t1⟩ : 0 ≤ to ∧ to ≤ mostOf W g.length ax := by omega
        have hto : to ≤ 1000 := by cases ax <;> dsimp only [mostOf] at t1 <;> omega
        have hm : moveF W g.length (GG.hC sh ⟨some n, sx, sy, sz⟩) ax to = none := by simp only [moveF, hcut, if_neg ho]
        have hway := wway sx sy sz ax to (by omega) (by omega) (by omega)
        have hpln := placesW_len hx hy hwl hle t0 t1
        obtain ⟨foot, bite⟩ := c
        have hcells : cellsM W g.length (foot, bite) (GG.hC sh ⟨some n, sx, sy, sz⟩) ax to = sweptL foot W g.length (placesB sx sy ax to) := rfl
        have hgo := done_go (sh := sh) (W := W) (H := g.length) (g := g) (slow := slow) hcut hm
        rw [hcells] at hgo
        obtain ⟨k10, k11, k12, hF⟩ := wfill (g := g) (sh := sh) (foot := foot) (bite := bite) (hn := n) R hC.len (placesB sx sy ax to) hpln (pl := ePl ⟨some n, sx, sy, sz⟩) hat (some (.lf (eMv (.go slow ax to)))) (some (.lf (.str (wK slow)))) (some (.lf (.str ax.s))) (some (.lf (.int to))) (some (.lf (.int (aI ax)))) (some (.lf (.int (lowOf (GG.hC sh ⟨some n, sx, sy, sz⟩) ax to))))
        have hin : In W g.length (sweptL foot W g.length (placesB sx sy ax to)) := fun p hp => sweptL_in hp
        have hnd : (sweptL foot W g.length (placesB sx sy ax to)).Nodup := csets_nd _ [] List.nodup_nil
        have hne2 : sweptL foot W g.length (placesB sx sy ax to) ≠ [] := by
          refine List.ne_nil_of_mem (a := (sx, sy)) (mem_swept.mpr ⟨(sx, sy), places_start (GG.hC sh ⟨some n, sx, sy, sz⟩) ax to, ?_⟩)
          unfold cellsU
          refine List.mem_map.mpr ⟨(0, 0), List.mem_filter.mpr ⟨hC.zero, inbX_iff.mpr ?_⟩, ?_⟩
          · dsimp only; omega
          · dsimp only; rw [Int.add_zero, Int.add_zero]
        obtain ⟨T, hT1, hT2, _⟩ := gMaxD_eH (g := g) hne2
        have hhd : (if (none : Option Flt) = none then hdone ⟨some n, sx, sy, sz⟩ (.go slow ax to) else ⟨some n, sx, sy, sz⟩) = hdone ⟨some n, sx, sy, sz⟩ (.go slow ax to) := if_pos rfl
        generalize lowOf (GG.hC sh ⟨some n, sx, sy, sz⟩) ax to = L at *
        generalize sweptL foot W g.length (placesB sx sy ax to) = cells at *
        -- the end, behind the tests
        have hend : ∀ (B0 : En → Rs Fl), B0 = (fSeq (fSet 14 (fC (.int 0)))
 (fSeq (fForD 9 (tgAny 2 (tgCons (tgName 10) (tgCons (tgName 11) (tgNil)))) L__law_done_2)
 (fSeq (fPut (fBin true gCatT (fBin true gCatT (fSl true true (fBinV true gIx (fVar 2) (fC (.int 1))) (fNoPart) (fPart (fVar 7))) (fMk .tuple (fCons true (fVar 6) (fNil)))) (fSl true true (fBinV true gIx (fVar 2) (fC (.int 1))) (fPart (fBin true gAdd (fVar 7) (fC (.int 1)))) (fNoPart))) (fVar 2) (fC (.int 1)))
 (fRet (fVar 14))))) → DPost (oG (cutP g cells L).1) sh (hdone ⟨some n, sx, sy, sz⟩ (.go slow ax to)) (.go slow ax to) (.int (cutP g cells L).2) (B0 [some (oG g), some (.lf (.list (sh.map eCut))), some (oHS ⟨some n, sx, sy, sz⟩), some (.lf (eMv (.go slow ax to))), some (.lf (.str (wK slow))), some (.lf (.str ax.s)), some (.lf (.int to)), some (.lf (.int (aI ax))), some (.lf (.int L)), some (.dcT (cells.map (eH g))), k10, k11, k12, some (.lf (.int T)), none]) := fun B0 hB => by
          subst hB
          obtain ⟨j10, j11, hD⟩ := wcut R cells hin hnd L (some (.lf (.list (sh.map eCut)))) (some (oHS ⟨some n, sx, sy, sz⟩)) (some (.lf (eMv (.go slow ax to)))) (some (.lf (.str (wK slow)))) (some (.lf (.str ax.s))) (some (.lf (.int to))) (some (.lf (.int (aI ax)))) k10 k11 k12 (some (.lf (.int T)))
          refine stepP (by simp [-List.map_map] <;> rfl) ?_
          have hD2 : (fForD 9 (tgAny 2 (tgCons (tgName 10) (tgCons (tgName 11) (tgNil)))) L__law_done_2) [some (oG g), some (.lf (.list (sh.map eCut))), some (oHS ⟨some n, sx, sy, sz⟩), some (.lf (eMv (.go slow ax to))), some (.lf (.str (wK slow))), some (.lf (.str ax.s)), some (.lf (.int to)), some (.lf (.int (aI ax))), some (.lf (.int L)), some (.dcT (cells.map (eH g))), k10, k11, k12, some (.lf (.int T)), some (.lf (.int 0))] = .ok .nx [some (oG (cutP g cells L).1), some (.lf (.list (sh.map eCut))), some (oHS ⟨some n, sx, sy, sz⟩), some (.lf (eMv (.go slow ax to))), some (.lf (.str (wK slow))), some (.lf (.str ax.s)), some (.lf (.int to)), some (.lf (.int (aI ax))), some (.lf (.int L)), some (.dcT (cells.map (eH g))), j10, j11, k12, some (.lf (.int T)), some (.lf (.int (cutP g cells L).2))] := by
            show unlR 9 (vFor (tgAny 2 (tgCons (tgName 10) (tgCons (tgName 11) (tgNil)))) L__law_done_2 ((cells.map (eH g)).map fun p : List Key × O => PyData.tuple (p.1.map unKey)) [some (oG g), some (.lf (.list (sh.map eCut))), some (oHS ⟨some n, sx, sy, sz⟩), some (.lf (eMv (.go slow ax to))), some (.lf (.str (wK slow))), some (.lf (.str ax.s)), some (.lf (.int to)), some (.lf (.int (aI ax))), some (.lf (.int L)), some (.dcL (cells.map (eH g))), k10, k11, k12, some (.lf (.int T)), some (.lf (.int 0))]) = _
            rw [keys_eH, hD]
            rfl
          refine stepP hD2 ?_
          generalize oG (cutP g cells L).1 = b1
          generalize cells.map (eH g) = kv
          generalize (cutP g cells L).2 = t2
          cases ax with
          | x =>
            refine stepP (e1 := [some b1, some (.lf (.list (sh.map eCut))), some (oHS ⟨some n, to, sy, sz⟩), some (.lf (eMv (.go slow .x to))), some (.lf (.str (wK slow))), some (.lf (.str "x")), some (.lf (.int to)), some (.lf (.int (aI .x))), some (.lf (.int L)), some (.dcT kv), j10, j11, k12, some (.lf (.int T)), some (.lf (.int t2))]) (by simp [-List.map_map, gIx_h1, aI, sl0, sr1, catT, line1, ixN]) ?_
            exact ⟨[_, _, _, _, _, _, _, _, _, _, _], by simp [-List.map_map, hdone] <;> (repeat' apply And.intro) <;> rfl⟩
          | y =>
            refine stepP (e1 := [some b1, some (.lf (.list (sh.map eCut))), some (oHS ⟨some n, sx, to, sz⟩), some (.lf (eMv (.go slow .y to))), some (.lf (.str (wK slow))), some (.lf (.str "y")), some (.lf (.int to)), some (.lf (.int (aI .y))), some (.lf (.int L)), some (.dcT kv), j10, j11, k12, some (.lf (.int T)), some (.lf (.int t2))]) (by simp [-List.map_map, gIx_h1, aI, sl1, sr2, catT, line1, ixN]) ?_
            exact ⟨[_, _, _, _, _, _, _, _, _, _, _], by simp [-List.map_map, hdone] <;> (repeat' apply And.intro) <;> rfl⟩
          | z =>
            refine stepP (e1 := [some b1, some (.lf (.list (sh.map eCut))), some (oHS ⟨some n, sx, sy, to⟩), some (.lf (eMv (.go slow .z to))), some (.lf (.str (wK slow))), some (.lf (.str "z")), some (.lf (.int to)), some (.lf (.int (aI .z))), some (.lf (.int L)), some (.dcT kv), j10, j11, k12, some (.lf (.int T)), some (.lf (.int t2))]) (by simp [-List.map_map, gIx_h1, aI, sl2, sr3, catT, line1, ixN]) ?_
            exact ⟨[_, _, _, _, _, _, _, _, _, _, _], by simp [-List.map_map, hdone] <;> (repeat' apply And.intro) <;> rfl⟩
        have hpre : ∀ (P : Rs Fl → Prop) (B0 : En → Rs Fl), P (B0 [some (oG g), some (.lf (.list (sh.map eCut))), some (oHS ⟨some n, sx, sy, sz⟩), some (.lf (eMv (.go slow ax to))), some (.lf (.str (wK slow))), some (.lf (.str ax.s)), some (.lf (.int to)), some (.lf (.int (aI ax))), some (.lf (.int L)), some (.dcT (cells.map (eH g))), k10, k11, k12, some (.lf (.int T)), none]) → P (fSeq (fIf (fOrT (fTst (fBin true gLt (fVar 6) (fC (.int 0)))) (fTst (fBin true gGt (fVar 6) (fBinV true gIx (fMk .list (fCons true (fBin true gSub (fCB gLen (fCons true (fBinV true gIx (fVar 0) (fC (.int 0))) (fNil))) (fC (.int 1))) (fCons true (fBin true gSub (fCB gLen (fCons true (fVar 0) (fNil))) (fC (.int 1))) (fCons true (fC (.int 1000)) (fNil))))) (fVar 7)))))
 (fRet (fC (.str "out")))
 (fNext))
 (fSeq (fSet 8 (fBinV true gIx (fBinV true gIx (fVar 2) (fC (.int 1))) (fC (.int 2))))
 (fSeq (fIf (fTst (fBin true gEq (fVar 5) (fC (.str "z"))))
 (fSet 8 (fCB gMin (fCons true (fVar 8) (fCons true (fVar 6) (fNil)))))
 (fNext))
 (fSeq (fSetO 9 (fODcT))
 (fSeq (fFor (fIt (fCallQ F__law_way (aVal (fBinV true gIx (fVar 2) (fC (.int 1))) (aVal (fVar 5) (aVal (fVar 6) (aNil)))))) (tgAny 2 (tgCons (tgName 10) (tgCons (tgName 11) (tgNil)))) L__law_done_0)
 (fSeq (fSet 13 (fMaxD (fVar 9))) B0)))))
 [some (oG g), some (.lf (.list (sh.map eCut))), some (oHS ⟨some n, sx, sy, sz⟩), some (.lf (eMv (.go slow ax to))), some (.lf (.str (wK slow))), some (.lf (.str ax.s)), some (.lf (.int to)), some (.lf (.int (aI ax))), none, none, none, none, none, none, none]) := fun P B0 hP => by
          rw [decide_eq_false ho] at hout
          refine stepP (e1 := [some (oG g), some (.lf (.list (sh.map eCut))), some (oHS ⟨some n, sx, sy, sz⟩), some (.lf (eMv (.go slow ax to))), some (.lf (.str (wK slow))), some (.lf (.str ax.s)), some (.lf (.int to)), some (.lf (.int (aI ax))), none, none, none, none, none, none, none]) (by rw [fIf_eq, hout, Rs.bind_ok, if_neg (by decide)]; rfl) ?_
          refine stepP2 (hlow8 (oG g)) ?_
          generalize cells.map (eH g) = kv at *
          generalize oG g = b1 at *
          refine stepP (e1 := [some b1, some (.lf (.list (sh.map eCut))), some (oHS ⟨some n, sx, sy, sz⟩), some (.lf (eMv (.go slow ax to))), some (.lf (.str (wK slow))), some (.lf (.str ax.s)), some (.lf (.int to)), some (.lf (.int (aI ax))), some (.lf (.int L)), some (.dcT []), none, none, none, none, none]) (by simp [-List.map_map]) ?_
          refine stepP (e1 := [some b1, some (.lf (.list (sh.map eCut))), some (oHS ⟨some n, sx, sy, sz⟩), some (.lf (eMv (.go slow ax to))), some (.lf (.str (wK slow))), some (.lf (.str ax.s)), some (.lf (.int to)), some (.lf (.int (aI ax))), some (.lf (.int L)), some (.dcT kv), k10, k11, k12, none, none]) (by
            simp [-List.map_map, gIx_h1, hway]
            exact hF) ?_
          refine stepP (e1 := [some b1, some (.lf (.list (sh.map eCut))), some (oHS ⟨some n, sx, sy, sz⟩), some (.lf (eMv (.go slow ax to))), some (.lf (.str (wK slow))), some (.lf (.str ax.s)), some (.lf (.int to)), some (.lf (.int (aI ax))), some (.lf (.int L)), some (.dcT kv), k10, k11, k12, some (.lf (.int T)), none]) (by
            simp [-List.map_map, hT1]) ?_
          exact hP
        cases slow with
        | false =>
          rw [if_neg (by decide)] at hgo
          by_cases hmt : metP g cells L = true
          · rw [if_pos hmt] at hgo
            rw [hgo]
            have hTL : L < T := (hT2 L).mpr hmt
            refine DPost.fin ?_
            unfold B__law_done
            refine hS1 _ _ _ ?_
            refine hpre _ _ ?_
            refine stepE (o := .lf (.str "crash")) (by simp [-List.map_map, hTL] <;> rfl) ?_
            exact ⟨_, rfl⟩
          · rw [if_neg hmt] at hgo
            rw [hgo]
            have hTL : ¬ L < T := fun h => hmt ((hT2 L).mp h)
            have hc0 : cutP g cells L = (g, 0) := cuts_none cells (g, 0) (met_false.mp (by simpa using hmt))
            refine DPost.fin ?_
            unfold B__law_done
            refine hS1 _ _ _ ?_
            refine hpre _ _ ?_
            refine stepP (e1 := [some (oG g), some (.lf (.list (sh.map eCut))), some (oHS ⟨some n, sx, sy, sz⟩), some (.lf (eMv (.go false ax to))), some (.lf (.str (wK false))), some (.lf (.str ax.s)), some (.lf (.int to)), some (.lf (.int (aI ax))), some (.lf (.int L)), some (.dcT (cells.map (eH g))), k10, k11, k12, some (.lf (.int T)), none]) (by simp [-List.map_map, hTL]) ?_
            refine stepP (e1 := [some (oG g), some (.lf (.list (sh.map eCut))), some (oHS ⟨some n, sx, sy, sz⟩), some (.lf (eMv (.go false ax to))), some (.lf (.str (wK false))), some (.lf (.str ax.s)), some (.lf (.int to)), some (.lf (.int (aI ax))), some (.lf (.int L)), some (.dcT (cells.map (eH g))), k10, k11, k12, some (.lf (.int T)), none]) (by simp [-List.map_map]) ?_
            have := hend _ rfl
            rw [hc0] at this
            exact this
        | true =>
          rw [if_pos rfl] at hgo
          dsimp only at hgo
          by_cases hmt : metP g cells (L + bite) = true
          · rw [if_pos hmt] at hgo
            rw [hgo]
            have hTL : L + bite < T := (hT2 _).mpr hmt
            refine DPost.fin ?_
            unfold B__law_done
            refine hS1 _ _ _ ?_
            refine hpre _ _ ?_
            refine stepP (e1 := [some (oG g), some (.lf (.list (sh.map eCut))), some (oHS ⟨some n, sx, sy, sz⟩), some (.lf (eMv (.go true ax to))), some (.lf (.str (wK true))), some (.lf (.str ax.s)), some (.lf (.int to)), some (.lf (.int (aI ax))), some (.lf (.int L)), some (.dcT (cells.map (eH g))), k10, k11, k12, some (.lf (.int T)), none]) (by simp [-List.map_map]) ?_
            refine stepE (o := .lf (.str "bite")) (by simp [-List.map_map, gIx_h0, hat, hTL] <;> rfl) ?_
            exact ⟨_, rfl⟩
          · rw [if_neg hmt] at hgo
            rw [hgo]
            have hTL : ¬ L + bite < T := fun h => hmt ((hT2 _).mp h)
            refine DPost.fin ?_
            unfold B__law_done
            refine hS1 _ _ _ ?_
            refine hpre _ _ ?_
            refine stepP (e1 := [some (oG g), some (.lf (.list (sh.map eCut))), some (oHS ⟨some n, sx, sy, sz⟩), some (.lf (eMv (.go true ax to))), some (.lf (.str (wK true))), some (.lf (.str ax.s)), some (.lf (.int to)), some (.lf (.int (aI ax))), some (.lf (.int L)), some (.dcT (cells.map (eH g))), k10, k11, k12, some (.lf (.int T)), none]) (by simp [-List.map_map]) ?_
            refine stepP (e1 := [some (oG g), some (.lf (.list (sh.map eCut))), some (oHS ⟨some n, sx, sy, sz⟩), some (.lf (eMv (.go true ax to))), some (.lf (.str (wK true))), some (.lf (.str ax.s)), some (.lf (.int to)), some (.lf (.int (aI ax))), some (.lf (.int L)), some (.dcT (cells.map (eH g))), k10, k11, k12, some (.lf (.int T)), none]) (by simp [-List.map_map, gIx_h0, hat, hTL]) ?_
            exact hend _ rfl
end
end GG
set_option linter.all false
set_option maxRecDepth 100000
set_option maxHeartbeats 4000000
namespace GG
open PySem PySem.Spec PyProof.Rows L2 MV
/-! The walker: all moves; a row within another; the first cell that is otherwise. -/
theorem gNe_mv (m n : Mv) : gNe (.lf (eMv m)) (.lf (eMv n)) = some (.bool (!decide (m = n))) := by
  rw [gNe_of rfl rfl ((mv_sh m).shaped (by decide)) ((mv_sh n).shaped (by decide)), mv_eqv]
theorem ordWh (o0 : Option O) (moves : List Mv) (hml : moves.length ≤ 90000) (m : Mv) (rest : List Mv) : ∀ (n a : Nat), moves.length - a < n → a ≤ moves.length → (m :: rest).Sublist (moves.drop a) →
    ∃ j : Nat, j < moves.length ∧ rest.Sublist (moves.drop (j + 1)) ∧ vWhile (fAndT (fTst (fBin true gLt (fVar 2) (fCB gLen (fCons true (fVar 1) (fNil))))) (fTst (fBin true gNe (fBinV true gIx (fVar 1) (fVar 2)) (fVar 3)))) L__law_within_1 n [o0, some (.lf (eMs moves)), some (.lf (.int a)), some (.lf (eMv m))]
      = .ok .nx [o0, some (.lf (eMs moves)), some (.lf (.int j)), some (.lf (eMv m))]
  | 0, a, h, _, _ => absurd h (Nat.not_lt_zero _)
  | n + 1, a, h, ha, hs => by
    have hlt : a < moves.length := by
      rcases Nat.lt_or_ge a moves.length with h1 | h1
      · exact h1
      · rw [List.drop_eq_nil_of_le h1] at hs; cases hs
    rw [List.drop_eq_getElem_cons hlt] at hs
    have hat : atI (moves.map eMv) (a : Int) = some (eMv moves[a]) := by
      have := atI_map (g := eMv) (l := moves) (i := (a : Int)) moves[a] (by omega) (by omega)
      rw [this, List.getD_eq_getElem?_getD, Int.toNat_natCast, List.getElem?_eq_getElem hlt]; rfl
    have hne := gNe_mv moves[a] m
    rw [vWhile]
    by_cases he : moves[a] = m
    · refine ⟨a, hlt, ?_, ?_⟩
      · rw [he] at hs
        exact List.cons_sublist_cons.mp hs
      · rw [he] at hat hne
        simp [-List.map_map, hlt, hat, hne]
    · have hs' : (m :: rest).Sublist (moves.drop (a + 1)) := by
        cases hs with
        | cons _ h => exact h
        | cons_cons _ h => exact absurd rfl he
      obtain ⟨j, h1, h2, h3⟩ := ordWh o0 moves hml m rest n (a + 1) (by omega) (by omega) hs'
      refine ⟨j, h1, h2, ?_⟩
      have hB : L__law_within_1 [o0, some (.lf (eMs moves)), some (.lf (.int a)), some (.lf (eMv m))] = .ok .nx [o0, some (.lf (eMs moves)), some (.lf (.int ((a + 1 : Nat) : Int))), some (.lf (eMv m))] := by
        simp [L__law_within_1]
      have hc : fAndT (fTst (fBin true gLt (fVar 2) (fCB gLen (fCons true (fVar 1) (fNil))))) (fTst (fBin true gNe (fBinV true gIx (fVar 1) (fVar 2)) (fVar 3))) [o0, some (.lf (eMs moves)), some (.lf (.int a)), some (.lf (eMv m))] = .ok true [o0, some (.lf (eMs moves)), some (.lf (.int a)), some (.lf (eMv m))] := by
        simp [-List.map_map, hlt, hat, hne, he]
      rw [hc, Rs.bind_ok, if_pos rfl, hB]
      exact h3
theorem ordIn (o0 : Option O) (moves : List Mv) (hml : moves.length ≤ 90000) : ∀ (some' : List Mv) (a : Nat) (o3 : Option O), a ≤ moves.length → some'.Sublist (moves.drop a) →
    ∃ k2 k3, vFor (tgName 3) L__law_within_0 (some'.map eMv) [o0, some (.lf (eMs moves)), some (.lf (.int a)), o3] = .ok .nx [o0, some (.lf (eMs moves)), k2, k3]
  | [], a, o3, ha, hs => ⟨_, _, rfl⟩
  | m :: rest, a, o3, ha, hs => by
    obtain ⟨j, h1, h2, h3⟩ := ordWh o0 moves hml m rest (moves.length + 1) a (by omega) ha hs
    have hw := fWhile_eq h3 (by simp)
    have hj : ¬ (j : Int) = (moves.length : Int) := by omega
    have hj' : ¬ j = moves.length := by omega
    have hB : L__law_within_0 [o0, some (.lf (eMs moves)), some (.lf (.int a)), some (.lf (eMv m))] = .ok .nx [o0, some (.lf (eMs moves)), some (.lf (.int ((j + 1 : Nat) : Int))), some (.lf (eMv m))] := by
      unfold L__law_within_0
      rw [fSeq_eq, hw]
      simp [-List.map_map, hj, hj', line1]
    obtain ⟨k2, k3, hr⟩ := ordIn o0 moves hml rest (j + 1) (some (.lf (eMv m))) h1 h2
    refine ⟨k2, k3, ?_⟩
    rw [List.map_cons, vFor]
    have hq : tgName 3 (eMv m) [o0, some (.lf (eMs moves)), some (.lf (.int a)), o3] = some [o0, some (.lf (eMs moves)), some (.lf (.int a)), some (.lf (eMv m))] := rfl
    rw [hq]
    dsimp only
    rw [hB]
    exact hr
theorem order_eq (some' moves : List Mv) (hml : moves.length ≤ 90000) (hs : some'.Sublist moves) : F__law_within [.lf (eMs some'), .lf (eMs moves)] = .ok (.lf (.bool true)) [some (.lf (eMs some')), some (.lf (eMs moves))] := by
  obtain ⟨k2, k3, h⟩ := ordIn (some (.lf (eMs some'))) moves hml some' 0 none (Nat.zero_le _) (by simpa using hs)
  rw [Int.ofNat_zero] at h
  simp [-List.map_map, F__law_within, fFun, B__law_within, h]
section
variable {W : Nat} {g g' : Grid} {sh : List Cutr} {b : Grid}
theorem wfirst (R : Rect W g) (R' : Rect W g') (h : g'.length = g.length) : F__law_first [.lf (eBed g), .lf (eBed g')] = .ok (.lf (eDif W g g')) [some (.lf (eBed g)), some (.lf (eBed g'))] := by
  have hrb : rOk (g.length : Int) = true := rOk_nat (Nat.lt_of_le_of_lt R.le (by decide))
  have hrw : rOk (W : Int) = true := rOk_nat (Nat.lt_of_le_of_lt R.wl (by decide))
  have inner : ∀ (y : Nat) (o7 : Option O), y < g.length → ∃ k7, vFor (tgName 3) L__law_first_1 (rng 0 W) [some (.lf (eBed g)), some (.lf (eBed g')), some (.lf (.int y)), o7] = .ok (match dRow W g g' y with | some x => .ret (.lf (wDif g g' (x, y))) | none => .nx) [some (.lf (eBed g)), some (.lf (eBed g')), some (.lf (.int y)), k7] := fun y o7 hy => by
    rw [rng_map]
    obtain ⟨e', ⟨k7, rfl⟩, hL⟩ := vFor_find (gt := tgName 3) (body := L__law_first_1) (f := fun i : Nat => PyData.int (i : Int)) (fun x : Nat => !decide (hAt g x y = hAt g' x y)) (fun x => .lf (wDif g g' (x, y))) (fun e => ∃ k7, e = [some (.lf (eBed g)), some (.lf (eBed g')), some (.lf (.int y)), k7]) (List.range W) [some (.lf (eBed g)), some (.lf (eBed g')), some (.lf (.int y)), o7] ⟨o7, rfl⟩ (by
      rintro x hx e ⟨k7, rfl⟩
      rw [List.mem_range] at hx
      obtain ⟨r, hr1, hr2⟩ := R.at (x := (x : Int)) (y := (y : Int)) (by omega) (by omega) (by omega) (by omega)
      obtain ⟨q, hq1, hq2⟩ := R'.at (x := (x : Int)) (y := (y : Int)) (by omega) (by omega) (by omega) (by omega)
      refine ⟨[some (.lf (eBed g)), some (.lf (eBed g')), some (.lf (.int y)), some (.lf (.int x))], rfl, fun z => ?_, fun z => ?_⟩
      · have z' : hAt g x y = hAt g' x y := by simpa using z
        exact ⟨_, .inl (by simp [-List.map_map, L__law_first_1, hr1, hr2, hq1, hq2, z']), some (.lf (.int x)), rfl⟩
      · have z' : ¬ hAt g x y = hAt g' x y := by simpa using z
        exact ⟨_, by simp [-List.map_map, L__law_first_1, hr1, hr2, hq1, hq2, z', line1], some (.lf (.int x)), rfl⟩)
    exact ⟨k7, by
      unfold dRow
      generalize (List.range W).find? (fun x : Nat => !decide (hAt g x y = hAt g' x y)) = o at hL ⊢
      cases o <;> exact hL⟩
  obtain ⟨e', ⟨k6, k7, rfl⟩, hL⟩ := vFor_find (gt := tgName 2) (body := L__law_first_0) (f := fun i : Nat => PyData.int (i : Int)) (fun y : Nat => (dRow W g g' y).isSome) (fun y => .lf (match dRow W g g' y with | some x => wDif g g' (x, y) | none => .none)) (fun e => ∃ k6 k7, e = [some (.lf (eBed g)), some (.lf (eBed g')), k6, k7]) (List.range g.length) [some (.lf (eBed g)), some (.lf (eBed g')), none, none] ⟨none, none, rfl⟩ (by
    rintro y hy e ⟨k6, k7, rfl⟩
    rw [List.mem_range] at hy
    obtain ⟨j7, hI⟩ := inner y k7 hy
    obtain ⟨r, hlen, hat⟩ := R.zero
    have hB : L__law_first_0 [some (.lf (eBed g)), some (.lf (eBed g')), some (.lf (.int y)), k7] = vFor (tgName 3) L__law_first_1 (rng 0 W) [some (.lf (eBed g)), some (.lf (eBed g')), some (.lf (.int y)), k7] := by
      simp [-List.map_map, L__law_first_0, hat, hlen, hrw]
    refine ⟨[some (.lf (eBed g)), some (.lf (eBed g')), some (.lf (.int y)), k7], rfl, fun z => ?_, fun z => ?_⟩
    · rw [hB, hI]
      cases hd : dRow W g g' y with
      | none => exact ⟨_, .inl rfl, _, _, rfl⟩
      | some x => rw [hd] at z; cases z
    · rw [hB, hI]
      cases hd : dRow W g g' y with
      | none => rw [hd] at z; cases z
      | some x => exact ⟨_, rfl, _, _, rfl⟩)
  rw [← rng_map] at hL
  unfold eDif dif
  cases hf : (List.range g.length).find? fun y => (dRow W g g' y).isSome with
  | none =>
    rw [hf] at hL
    simp [-List.map_map, F__law_first, fFun, B__law_first, hrb, hL]
  | some y =>
    rw [hf] at hL
    have := List.find?_some hf
    cases hd : dRow W g g' y with
    | none => rw [hd] at this; cases this
    | some x =>
      simp only [hd] at hL
      simp [-List.map_map, F__law_first, fFun, B__law_first, hrb, hL, hd]
theorem copyW_eq (b : Grid) (hb : b.length ≤ 40) (o0 o1 o2 o3 o4 o5 : Option O) : ∃ k, vLcO [6] (tgName 6) fYes D__law_walked_0 (b.map fun r => .list (r.map .int)) [] [o0, o1, o2, o3, o4, o5, none] = .ok (b.map fun r => oR r) [o0, o1, o2, o3, o4, o5, k] := by
  obtain ⟨acc', e', hL2, rfl, k1, rfl⟩ := vLcO_inv (vs := [6]) (gt := tgName 6) (tt := fYes) (fe := D__law_walked_0) (fun i acc env => acc = (b.take i).map (fun r => oR r) ∧ ∃ k, env = [o0, o1, o2, o3, o4, o5, k]) (b.map fun r => .list (r.map .int)) 0 [] [o0, o1, o2, o3, o4, o5, none] ⟨by simp, none, rfl⟩ (by
      rintro i w' acc e2 hi ⟨rfl, k1, rfl⟩
      rw [List.getElem?_map] at hi
      cases hg : b[i]? with
      | none => rw [hg] at hi; cases hi
      | some d =>
      rw [hg] at hi
      cases hi
      refine ⟨[o0, o1, o2, o3, o4, o5, some (.lf (.list (d.map .int)))], true, _, by simp [wipeE], rfl, (fun h => nomatch h), fun _ => ⟨oR d, [o0, o1, o2, o3, o4, o5, some (.lf (.list (d.map .int)))], by simp [D__law_walked_0, oR], by simp [line1]; omega, ?_, _, rfl⟩⟩
      rw [Nat.zero_add, List.take_add_one, hg]; simp)
  rw [List.length_map, Nat.zero_add, List.take_length] at hL2
  exact ⟨_, hL2⟩
theorem walk_loop (hcu : ∀ c ∈ sh, CutZ c) {H : Nat} (o0 o2 : Option O) : ∀ (ms : List Mv) (s : HSt) (g : Grid) (o5 : Option O), Rect W g → g.length = H → HsOk sh W H s →
    match runP sh W H (hC sh s) g ms with
    | some (_, G) => ∃ s' k5, vFor (tgName 5) L__law_walked_1 (ms.map eMv) [o0, some (.lf (.list (sh.map eCut))), o2, some (oG g), some (oHS s), o5, none] = .ok .nx [o0, some (.lf (.list (sh.map eCut))), o2, some (oG G), some (oHS s'), k5, none]
    | none => ∃ k, vFor (tgName 5) L__law_walked_1 (ms.map eMv) [o0, some (.lf (.list (sh.map eCut))), o2, some (oG g), some (oHS s), o5, none] = .ok (.ret (.lf .none)) (o0 :: some (.lf (.list (sh.map eCut))) :: o2 :: k)
  | [], s, g, o5, R, hl, S => ⟨s, o5, rfl⟩
  | m :: ms, s, g, o5, R, hl, S => by
    subst hl
    have hd := wdone R S hcu m
    have hq : tgName 5 (eMv m) [o0, some (.lf (.list (sh.map eCut))), o2, some (oG g), some (oHS s), o5, none] = some [o0, some (.lf (.list (sh.map eCut))), o2, some (oG g), some (oHS s), some (.lf (eMv m)), none] := rfl
    have hok := doneP_ok (m := m) (fun c h => (hcu c h).len) R S.sok
    rw [List.map_cons, vFor, hq]
    dsimp only
    cases hf : (doneP sh W g.length (hC sh s) g m).f with
    | some f =>
      rw [runP_stop hf]
      dsimp only
      have hans : DAns (doneP sh W g.length (hC sh s) g m) = .str f.s := by unfold DAns; rw [hf]
      rw [hans] at hd
      have hB : L__law_walked_1 [o0, some (.lf (.list (sh.map eCut))), o2, some (oG g), some (oHS s), some (.lf (eMv m)), none] = .ok (.ret (.lf .none)) [o0, some (.lf (.list (sh.map eCut))), o2, some (oG (doneP sh W g.length (hC sh s) g m).g), some (oHS (if (doneP sh W g.length (hC sh s) g m).f = none then hdone s m else s)), some (.lf (eMv m)), none] := by
        obtain ⟨b1, e1⟩ : ∃ l, oG g = .lst l := ⟨_, rfl⟩
        obtain ⟨b2, e2⟩ : ∃ l, oG (doneP sh W g.length (hC sh s) g m).g = .lst l := ⟨_, rfl⟩
        obtain ⟨h1, e3⟩ : ∃ l, oHS s = .lst l := ⟨_, rfl⟩
        obtain ⟨h2, e4⟩ : ∃ l, oHS (if (doneP sh W g.length (hC sh s) g m).f = none then hdone s m else s) = .lst l := ⟨_, rfl⟩
        have t1 : Ty.sub .str .int = false := rfl
        have t2 : Ty.sub .int .int = true := rfl
        rw [e1, e2, e3, e4] at hd
        rw [e1, e2, e3, e4]
        simp [-List.map_map, L__law_walked_1, hd, t1, t2]
      rw [hB]
      exact ⟨_, rfl⟩
    | none =>
      rw [runP_cons hf]
      have hans : DAns (doneP sh W g.length (hC sh s) g m) = .int (doneP sh W g.length (hC sh s) g m).t := by unfold DAns; rw [hf]
      rw [hans, if_pos hf] at hd
      have hB : L__law_walked_1 [o0, some (.lf (.list (sh.map eCut))), o2, some (oG g), some (oHS s), some (.lf (eMv m)), none] = .ok .nx [o0, some (.lf (.list (sh.map eCut))), o2, some (oG (doneP sh W g.length (hC sh s) g m).g), some (oHS (hdone s m)), some (.lf (eMv m)), none] := by
        obtain ⟨b1, e1⟩ : ∃ l, oG g = .lst l := ⟨_, rfl⟩
        obtain ⟨b2, e2⟩ : ∃ l, oG (doneP sh W g.length (hC sh s) g m).g = .lst l := ⟨_, rfl⟩
        obtain ⟨h1, e3⟩ : ∃ l, oHS s = .lst l := ⟨_, rfl⟩
        obtain ⟨h2, e4⟩ : ∃ l, oHS (hdone s m) = .lst l := ⟨_, rfl⟩
        have t1 : Ty.sub .str .int = false := rfl
        have t2 : Ty.sub .int .int = true := rfl
        rw [e1, e2, e3, e4] at hd
        rw [e1, e2, e3, e4]
        simp [-List.map_map, L__law_walked_1, hd, t1, t2]
      rw [hB]
      have := walk_loop hcu (H := g.length) o0 o2 ms (hdone s m) (doneP sh W g.length (hC sh s) g m).g (some (.lf (eMv m))) hok.2.1 hok.2.2 (hdone_ok S hf)
      rw [hdone_hC hf] at this
      exact this
/-- what is left, or None -/
def eWalk : Option (CSt × Grid) → PyData
  | some (_, G) => eBed G
  | none => .none
abbrev h0 : HSt := ⟨none, 0, 0, 1000⟩
theorem h0_ok {H : Nat} (hW : 0 < W) (hH : 0 < H) : HsOk sh W H h0 := ⟨fun n h => (nomatch h), ⟨by decide, by dsimp only; omega⟩, ⟨by decide, by dsimp only; omega⟩, ⟨by decide, by decide⟩⟩
theorem walked_eq (R : Rect W b) (hcu : ∀ c ∈ sh, CutZ c) (ms : List Mv) : F__law_walked [.lf (eBed b), .lf (.list (sh.map eCut)), .lf (eMs ms)] = .ok (.lf (eWalk (runP sh W b.length s0 b ms))) [some (.lf (eBed b)), some (.lf (.list (sh.map eCut))), some (.lf (eMs ms))] := by
  obtain ⟨k, hc⟩ := copyW_eq b R.le (some (.lf (eBed b))) (some (.lf (.list (sh.map eCut)))) (some (.lf (eMs ms))) none none none
  have hw := walk_loop hcu (some (.lf (eBed b))) (some (.lf (eMs ms))) ms h0 b none R rfl (h0_ok R.w0 R.ne)
  have hs0 : hC sh h0 = s0 := rfl
  rw [hs0] at hw
  have hsz : (b.map fun r => oR r).length ≤ 16777216 := by have := R.le; rw [List.length_map]; omega
  cases hr : runP sh W b.length s0 b ms with
  | none =>
    rw [hr] at hw
    obtain ⟨k2, hw⟩ := hw
    simp only [oG] at hw
    generalize (b.map fun r => oR r) = gl at *
    simp [-List.map_map, F__law_walked, fFun, B__law_walked, hc, okOwn, restE, hw, eWalk, line1]
  | some p =>
    obtain ⟨s, G⟩ := p
    rw [hr] at hw
    obtain ⟨s', k5, hw⟩ := hw
    have he := er_oG G
    obtain ⟨q2, e2⟩ : ∃ l, oG G = .lst l := ⟨_, rfl⟩
    rw [e2] at he hw
    simp only [oG] at hw
    generalize (b.map fun r => oR r) = gl at *
    simp [-List.map_map, -er_lst, F__law_walked, fFun, B__law_walked, hc, okOwn, restE, hw, eWalk, he, line1]
end
end GG
set_option linter.all false
set_option maxRecDepth 100000
set_option maxHeartbeats 4000000
namespace GG
open PySem PySem.Spec PyProof.Rows L2 MV
/-! The makers of k62, k65: numbers, bed, shelf. -/
theorem wcell (ns : List Int) (k : Int) (hk : 0 ≤ k) : ∃ v : Int, F__law_cell_at [.lf (.list (ns.map .int)), .lf (.int k)] = .ok (.lf (.int v)) [some (.lf (.list (ns.map .int))), some (.lf (.int k))] := by
  by_cases h : k < (ns.length : Int)
  · have hat := atI_map (g := PyData.int) (l := ns) (i := k) 0 (by omega) (by omega)
    exact ⟨ns.getD k.toNat 0, by simp [-List.map_map, F__law_cell_at, fFun, B__law_cell_at, h, hat]⟩
  · exact ⟨0, by simp [-List.map_map, F__law_cell_at, fFun, B__law_cell_at, h]⟩
theorem wmixed (c k : Int) (hk : 0 ≤ k) : ∃ v, F__law_mixed [.lf (.int c), .lf (.int k)] = .ok (.lf (.int v)) [some (.lf (.int c)), some (.lf (.int k))] := by
  have m1 : cMul 101 k = true := cMul_l (by decide) (by decide)
  exact ⟨_, by simp [F__law_mixed, fFun, B__law_mixed, cMul_mod, cMul_r, m1] <;> rfl⟩
theorem wnumbers (ns : List Int) (k : Int) (hk : 0 ≤ k) (n : Nat) (hn : n ≤ 100) : ∃ vs : List Int, vs.length = n ∧ F__law_numbers [.lf (.list (ns.map .int)), .lf (.int k), .lf (.int n)] = .ok (.lf (.list (vs.map .int))) [some (.lf (.list (ns.map .int))), some (.lf (.int k)), some (.lf (.int n))] := by
  obtain ⟨c, hc⟩ := wcell ns k hk
  obtain ⟨c0, hc0⟩ := wcell ns 0 (by decide)
  obtain ⟨M, hM⟩ : ∃ M : Int, max 1 (min 63 (ns.length : Int)) = M := ⟨_, rfl⟩
  have hM0 : 0 < M := by omega
  obtain ⟨e', hL, vs, c', j, hl, rfl⟩ := vFor_rng (gt := tgName 5) (body := L__law_numbers_0) n (fun i e => ∃ (vs : List Int) (c' : Int) (j : Option O), vs.length = i ∧ e = [some (.lf (.list (ns.map .int))), some (.lf (.int k)), some (.lf (.int n)), some (.lf (.int c')), some (oI vs), j]) [some (.lf (.list (ns.map .int))), some (.lf (.int k)), some (.lf (.int n)), some (.lf (.int c)), some (.lst []), none] ⟨[], c, none, rfl, rfl⟩ (by
    rintro i hi e ⟨vs, c', j, hl, rfl⟩
    have hsz : (vs.map fun i => O.lf (.int i)).length < 16777216 := by rw [List.length_map]; omega
    have hap : ∀ v : Int, oI (vs ++ [v]) = .lst ((vs.map fun i => O.lf (.int i)) ++ [.lf (.int v)]) := fun v => by simp [oI]
    by_cases h2 : c0 % 2 = 0
    · refine ⟨_, _, rfl, .inl ?_, vs ++ [c' % 1009], c' / 1009, some (.lf (.int i)), by rw [List.length_append, hl]; rfl, rfl⟩
      rw [hap]
      simp only [oI]
      generalize (vs.map fun i => O.lf (.int i)) = q at *
      simp [-List.map_map, L__law_numbers_0, hc0, h2, line1, hsz]
    · have h60 : cMul 60 k = true := cMul_l (by decide) (by decide)
      obtain ⟨c1, hc1⟩ := wcell ns ((k + (i : Int)) % M) (Int.emod_nonneg _ (by omega))
      obtain ⟨v, hv⟩ := wmixed c1 (60 * k + (i : Int)) (by omega)
      refine ⟨_, _, rfl, .inl ?_, vs ++ [v], c', some (.lf (.int i)), by rw [List.length_append, hl]; rfl, rfl⟩
      rw [hap]
      simp only [oI]
      generalize (vs.map fun i => O.lf (.int i)) = q at *
      simp [-List.map_map, L__law_numbers_0, hc0, h2, line1, hsz, gMax_ii, gMin_ii, hM, hM0, hc1, h60, hv])
  have hrn : rOk (n : Int) = true := rOk_nat (by omega)
  have he : (oI vs).er = some (.list (vs.map .int)) := er_oR vs
  refine ⟨vs, hl, ?_⟩
  obtain ⟨q, hq⟩ : ∃ q, oI vs = .lst q := ⟨_, rfl⟩
  rw [hq] at hL he
  simp [-List.map_map, -er_lst, F__law_numbers, fFun, B__law_numbers, hc, hrn, hL, he]
theorem wbed (ns : List Int) : ∃ (W : Nat) (b : Grid), Rect W b ∧ F__law_bed [.lf (.list (ns.map .int))] = .ok (.lf (eBed b)) [some (.lf (.list (ns.map .int)))] := by
  obtain ⟨c0, hc0⟩ := wcell ns 0 (by decide)
  obtain ⟨vs, hvl, hvs⟩ := wnumbers ns 1 (by decide) 30 (by decide)
  obtain ⟨F, hF⟩ : ∃ F : Int, c0 / 2 = F := ⟨_, rfl⟩
  obtain ⟨W, hW⟩ : ∃ W : Nat, 1 + F % 6 = W := ⟨(1 + F % 6).toNat, by have := Int.emod_nonneg F (show (6 : Int) ≠ 0 by decide); omega⟩
  obtain ⟨D, hD⟩ : ∃ D : Nat, 1 + F / 6 % 5 = D := ⟨(1 + F / 6 % 5).toNat, by have := Int.emod_nonneg (F / 6) (show (5 : Int) ≠ 0 by decide); omega⟩
  have w0 : 0 < W ∧ W ≤ 6 := by
    have := Int.emod_nonneg F (show (6 : Int) ≠ 0 by decide)
    have := Int.emod_lt_of_pos F (show (0 : Int) < 6 by decide)
    omega
  have d0 : 0 < D ∧ D ≤ 5 := by
    have := Int.emod_nonneg (F / 6) (show (5 : Int) ≠ 0 by decide)
    have := Int.emod_lt_of_pos (F / 6) (show (0 : Int) < 5 by decide)
    omega
  obtain ⟨hi, hhi, hp⟩ : ∃ hi : Int, atI [PyData.int 9, .int 40, .int 1001] (F / 30 % 3) = some (.int hi) ∧ 0 < hi := by
    have h1 := Int.emod_nonneg (F / 30) (show (3 : Int) ≠ 0 by decide)
    have h2 := Int.emod_lt_of_pos (F / 30) (show (0 : Int) < 3 by decide)
    have : F / 30 % 3 = 0 ∨ F / 30 % 3 = 1 ∨ F / 30 % 3 = 2 := by omega
    rcases this with h | h | h <;> rw [h]
    · exact ⟨9, rfl, by decide⟩
    · exact ⟨40, rfl, by decide⟩
    · exact ⟨1001, rfl, by decide⟩
  have hrw : rOk (W : Int) = true := rOk_nat (by omega)
  have hrd : rOk (D : Int) = true := rOk_nat (by omega)
  obtain ⟨S, hS⟩ : ∃ S, some (O.lf (.list (ns.map PyData.int))) = S := ⟨_, rfl⟩
  obtain ⟨e', ⟨a, rfl⟩, hL⟩ := vLc_map (vs := [5]) (gt := tgName 5) (tt := fYes) (fe := C__law_bed_0) (f := fun i : Nat => PyData.int (i : Int)) (fun y : Nat => PyData.list (((List.range W).map fun x : Nat => vs.getD (y * W + x) 0 % hi).map .int)) (fun e => ∃ a, e = [S, some (.lf (.int F)), some (.lf (.int W)), some (.lf (.int hi)), some (.lf (.list (vs.map .int))), a, none]) (List.range D) [S, some (.lf (.int F)), some (.lf (.int W)), some (.lf (.int hi)), some (.lf (.list (vs.map .int))), none, none] ⟨none, rfl⟩ (by rw [List.length_range, line1]; omega) (by
    rintro y hy e ⟨a, rfl⟩
    rw [List.mem_range] at hy
    obtain ⟨e2, ⟨a2, rfl⟩, hL2⟩ := vLc_map (vs := [6]) (gt := tgName 6) (tt := fYes) (fe := C__law_bed_1) (f := fun i : Nat => PyData.int (i : Int)) (fun x : Nat => PyData.int (vs.getD (y * W + x) 0 % hi)) (fun e => ∃ a, e = [S, some (.lf (.int F)), some (.lf (.int W)), some (.lf (.int hi)), some (.lf (.list (vs.map .int))), some (.lf (.int y)), a]) (List.range W) [S, some (.lf (.int F)), some (.lf (.int W)), some (.lf (.int hi)), some (.lf (.list (vs.map .int))), some (.lf (.int y)), none] ⟨none, rfl⟩ (by rw [List.length_range, line1]; omega) (by
      rintro x hx e ⟨a, rfl⟩
      rw [List.mem_range] at hx
      have hyw : y * W ≤ 4 * 6 := Nat.mul_le_mul (by omega) (by omega)
      have hyw' : y * W + x < 30 := by omega
      have hat := atI_map (g := PyData.int) (l := vs) (i := ((y * W + x : Nat) : Int)) 0 (by omega) (by omega)
      rw [Int.toNat_natCast] at hat
      have hcast : (y : Int) * (W : Int) + (x : Int) = ((y * W + x : Nat) : Int) := by push_cast; rfl
      have hmul : cMul (y : Int) (W : Int) = true := cMul_l (by omega) (by omega)
      refine ⟨[S, some (.lf (.int F)), some (.lf (.int W)), some (.lf (.int hi)), some (.lf (.list (vs.map .int))), some (.lf (.int y)), some (.lf (.int x))], [S, some (.lf (.int F)), some (.lf (.int W)), some (.lf (.int hi)), some (.lf (.list (vs.map .int))), some (.lf (.int y)), some (.lf (.int x))], [S, some (.lf (.int F)), some (.lf (.int W)), some (.lf (.int hi)), some (.lf (.list (vs.map .int))), some (.lf (.int y)), some (.lf (.int x))], rfl, by simp [wipeE], ?_, _, rfl⟩
      rw [← hcast] at hat
      simp [-List.map_map, C__law_bed_1, hmul, hat, hp])
    rw [← rng_map] at hL2
    refine ⟨[S, some (.lf (.int F)), some (.lf (.int W)), some (.lf (.int hi)), some (.lf (.list (vs.map .int))), some (.lf (.int y)), none], [S, some (.lf (.int F)), some (.lf (.int W)), some (.lf (.int hi)), some (.lf (.list (vs.map .int))), some (.lf (.int y)), none], [S, some (.lf (.int F)), some (.lf (.int W)), some (.lf (.int hi)), some (.lf (.list (vs.map .int))), some (.lf (.int y)), none], rfl, by simp [wipeE], ?_, _, rfl⟩
    rw [List.map_map]
    simp [-List.map_map, C__law_bed_0, hrw, okOwn, hL2, restE])
  rw [← rng_map] at hL
  refine ⟨W, (List.range D).map fun y => (List.range W).map fun x : Nat => vs.getD (y * W + x) 0 % hi, ⟨by simp; omega, by simp; omega, fun r hr => ?_, w0.1, by omega⟩, ?_⟩
  · obtain ⟨y, _, rfl⟩ := List.mem_map.mp hr
    simp
  · subst hS
    unfold eBed
    rw [List.map_map]
    have hW' : 1 + F % 6 = (W : Int) := hW
    have hvs' : F__law_numbers [.lf (.list (ns.map .int)), .lf (.int 1), .lf (.int 30)] = .ok (.lf (.list (vs.map .int))) [some (.lf (.list (ns.map .int))), some (.lf (.int 1)), some (.lf (.int 30))] := hvs
    simp [-List.map_map, F__law_bed, fFun, B__law_bed, hc0, hF, hW, hD, hhi, hvs', hrd, okOwn, hL, restE, line1]
theorem cut_len {α : Type} {l : List α} {a b : Int} (h0 : 0 ≤ a) (h1 : a ≤ b) (h2 : b ≤ l.length) : (cut l (some a) (some b)).length = (b - a).toNat := by
  rw [cut_both h0 (by omega), List.length_drop, List.length_take]; omega
theorem wcutter (vs : List Int) (hl : vs.length = 7) : ∃ c : Cutr, CutZ c ∧ F__law_cutter [.lf (.list (vs.map .int))] = .ok (.lf (eCut c)) [some (.lf (.list (vs.map .int)))] := by
  have h0 := atI_map (g := PyData.int) (l := vs) (i := 0) 0 (by omega) (by omega)
  have h1 := atI_map (g := PyData.int) (l := vs) (i := 1) 0 (by omega) (by omega)
  generalize vs.getD (0 : Int).toNat 0 = v0 at h0
  generalize vs.getD (1 : Int).toNat 0 = v1 at h1
  have m0 := Int.emod_nonneg v0 (show (6 : Int) ≠ 0 by decide)
  have m1 := Int.emod_lt_of_pos v0 (show (0 : Int) < 6 by decide)
  obtain ⟨N, hN⟩ : ∃ N : Int, 2 + v0 % 6 = N := ⟨_, rfl⟩
  obtain ⟨ws, hw, hwl⟩ : ∃ ws : List Int, cut (vs.map PyData.int) (some 2) (some N) = ws.map .int ∧ ws.length ≤ 7 := by
    refine ⟨cut vs (some 2) (some N), ?_, ?_⟩
    · unfold cut; rw [List.length_map, List.map_take, List.map_drop]
    · unfold cut; rw [List.length_take, List.length_drop]; omega
  obtain ⟨e', hL, fs, k2, k3, hz, hf, rfl⟩ := vFor_map (gt := tgName 2) (body := L__law_cutter_0) PyData.int ws (fun i e => ∃ (fs : List (Int × Int)) (k2 k3 : Option O), (0, 0) ∈ fs ∧ fs.length ≤ i + 1 ∧ e = [some (.lf (.list (vs.map .int))), some (.lst (fs.map fun p => .lf (wpair p))), k2, k3]) [some (.lf (.list (vs.map .int))), some (.lst [.lf (wpair (0, 0))]), none, none] ⟨[(0, 0)], none, none, by simp, by simp, rfl⟩ (by
    rintro i n e hi ⟨fs, k2, k3, hz, hf, rfl⟩
    have hil := (List.getElem?_eq_some_iff.mp hi).1
    have hsz : fs.length < 16777216 := by omega
    by_cases hm : (n % 5 - 2, n / 5 % 5 - 2) ∈ fs
    · refine ⟨_, _, rfl, .inl ?_, fs, some (.lf (.int n)), some (.lf (.tuple [.int (n % 5 - 2), .int (n / 5 % 5 - 2)])), hz, by omega, rfl⟩
      simp [L__law_cutter_0, line1, hm]
    · refine ⟨_, _, rfl, .inl ?_, fs ++ [(n % 5 - 2, n / 5 % 5 - 2)], some (.lf (.int n)), some (.lf (.tuple [.int (n % 5 - 2), .int (n / 5 % 5 - 2)])), List.mem_append_left _ hz, by simp; omega, rfl⟩
      simp [L__law_cutter_0, line1, hm, hsz]
      rfl)
  obtain ⟨M, hM, hM0⟩ : ∃ M : Int, atI [PyData.int 9, .int 1000] (v1 % 2) = some (.int M) ∧ 0 < M := by
    have h1 := Int.emod_nonneg v1 (show (2 : Int) ≠ 0 by decide)
    have h2 := Int.emod_lt_of_pos v1 (show (0 : Int) < 2 by decide)
    have : v1 % 2 = 0 ∨ v1 % 2 = 1 := by omega
    rcases this with h | h <;> rw [h]
    · exact ⟨9, rfl, by decide⟩
    · exact ⟨1000, rfl, by decide⟩
  have he : (O.lst (fs.map fun p => .lf (wpair p))).er = some (.list (fs.map wpair)) := by
    rw [show (fs.map fun p => O.lf (wpair p)) = (fs.map wpair).map .lf from (List.map_map ..).symm]
    simp [-List.map_map]
  refine ⟨(fs, 1 + v1 / 2 % M), ⟨hz, by show fs.length ≤ 26; omega⟩, ?_⟩
  generalize (fs.map fun p => O.lf (wpair p)) = q at *
  have hw0 : wpair (0, 0) = .tuple [.int 0, .int 0] := rfl
  rw [hw0] at hL
  simp [-List.map_map, -er_lst, F__law_cutter, fFun, B__law_cutter, h0, h1, hN, hw, hL, hM, hM0, he, line1]
theorem wshelf (ns : List Int) : ∃ sh : List Cutr, (∀ c ∈ sh, CutZ c) ∧ 0 < sh.length ∧ sh.length ≤ 3 ∧ F__law_shelf [.lf (.list (ns.map .int))] = .ok (.lf (.list (sh.map eCut))) [some (.lf (.list (ns.map .int)))] := by
  obtain ⟨vs, hvl, hvs⟩ := wnumbers ns 2 (by decide) 22 (by decide)
  have h21 := atI_map (g := PyData.int) (l := vs) (i := 21) 0 (by omega) (by omega)
  generalize vs.getD (21 : Int).toNat 0 = v21 at h21
  obtain ⟨n, hn⟩ : ∃ n : Nat, 1 + v21 % 3 = n := ⟨(1 + v21 % 3).toNat, by have := Int.emod_nonneg v21 (show (3 : Int) ≠ 0 by decide); omega⟩
  have n0 : 0 < n ∧ n ≤ 3 := by
    have := Int.emod_nonneg v21 (show (3 : Int) ≠ 0 by decide)
    have := Int.emod_lt_of_pos v21 (show (0 : Int) < 3 by decide)
    omega
  have hrn : rOk (n : Int) = true := rOk_nat (by omega)
  obtain ⟨acc', e', hL, sh, k, rfl, rfl, hl, hc⟩ := vLc_inv (vs := [2]) (gt := tgName 2) (tt := fYes) (fe := C__law_shelf_0) (fun i acc env => ∃ (sh : List Cutr) (k : Option O), acc = sh.map eCut ∧ env = [some (.lf (.list (ns.map .int))), some (.lf (.list (vs.map .int))), k] ∧ sh.length = i ∧ ∀ c ∈ sh, CutZ c) (rng 0 n) 0 [] [some (.lf (.list (ns.map .int))), some (.lf (.list (vs.map .int))), none] ⟨[], none, rfl, rfl, rfl, fun _ h => nomatch h⟩ (by
    rintro i w acc e hi ⟨sh, k, rfl, rfl, hl, hc⟩
    obtain ⟨hin, rfl⟩ := rng_get hi
    have hcut : cut (vs.map PyData.int) (some (7 * (0 + (i : Int)))) (some (7 * (0 + (i : Int)) + 7)) = (cut vs (some (7 * (0 + (i : Int)))) (some (7 * (0 + (i : Int)) + 7))).map .int := by
      unfold cut; rw [List.length_map, List.map_take, List.map_drop]
    have hcl : (cut vs (some (7 * (0 + (i : Int)))) (some (7 * (0 + (i : Int)) + 7))).length = 7 := by
      rw [cut_len (by omega) (by omega) (by omega)]
      omega
    obtain ⟨c, h1, h2⟩ := wcutter _ hcl
    have hmul : cMul 7 (0 + (i : Int)) = true := cMul_l (by decide) (by decide)
    refine ⟨[some (.lf (.list (ns.map .int))), some (.lf (.list (vs.map .int))), some (.lf (.int (0 + i)))], true, _, by simp [wipeE], rfl, (fun h => nomatch h), fun _ => ⟨eCut c, [some (.lf (.list (ns.map .int))), some (.lf (.list (vs.map .int))), some (.lf (.int (0 + i)))], ?_, by simp [line1]; omega, sh ++ [c], some (.lf (.int (0 + i))), by simp, rfl, by simp [hl], ?_⟩⟩
    · rw [Int.zero_add] at hcut h2 hmul ⊢
      simp [-List.map_map, C__law_shelf_0, hmul, hcut, h2]
    · intro c' h
      rcases List.mem_append.mp h with h | h
      · exact hc c' h
      · simp at h; rw [h]; exact h1)
  have hvs' : F__law_numbers [.lf (.list (ns.map .int)), .lf (.int 2), .lf (.int 22)] = .ok (.lf (.list (vs.map .int))) [some (.lf (.list (ns.map .int))), some (.lf (.int 2)), some (.lf (.int 22))] := hvs
  have hl' : sh.length = n := by simpa using hl
  refine ⟨sh, hc, by omega, by omega, ?_⟩
  simp [-List.map_map, F__law_shelf, fFun, B__law_shelf, hvs', h21, hn, hrn, okOwn, hL, restE]
end GG
set_option linter.all false
set_option maxRecDepth 100000
set_option maxHeartbeats 4000000
namespace GG
open PySem PySem.Spec PyProof.Rows L2 MV
theorem wnumber (ns : List Int) {k : Nat} (hk : k < ns.length) : ∃ v : Int, F__law_number [.lf (.list (ns.map .int)), .lf (.int k)] = .ok (.lf (.int v)) [some (.lf (.list (ns.map .int))), some (.lf (.int k))] := by
  obtain ⟨c0, hc0⟩ := wcell ns 0 (by decide)
  have hat := atI_map (g := PyData.int) (l := ns) (i := (k : Int)) 0 (by omega) (by omega)
  obtain ⟨v, hv⟩ := wmixed (ns.getD (k : Int).toNat 0) (300 + (k : Int)) (by omega)
  by_cases h : c0 % 2 = 0
  · exact ⟨_, by simp [-List.map_map, F__law_number, fFun, B__law_number, hc0, h, hat] <;> rfl⟩
  · generalize ns.getD (k : Int).toNat 0 = u at *
    exact ⟨v, by simp [-List.map_map, F__law_number, fFun, B__law_number, hc0, h, hat, hv]⟩
section
variable {W : Nat} {g b : Grid} {sh : List Cutr}
abbrev oM (ms : List Mv) : O := .lst (ms.map fun m => .lf (eMv m))
abbrev eHS (s : HSt) : PyData := .list [eHold s.h, ePl s]
/-- the drawn move -/
def mvA : En → Rs Fl := (fIf (fAndT (fTst (fBin true gGt (fBin true gMod (fVar 7) (fC (.int 8))) (fC (.int 0)))) (fTst (fBin true gGt (fVar 6) (fC (.int 0)))))
 (fSeq (fSet 9 (fBinV true gIx (fBinV true gIx (fVar 4) (fBin true gMod (fBin true gDiv (fVar 7) (fC (.int 8))) (fCB gLen (fCons true (fVar 4) (fNil))))) (fBin true gMod (fBin true gDiv (fVar 7) (fC (.int 64))) (fCB gLen (fCons true (fBinV true gIx (fVar 4) (fC (.int 0))) (fNil))))))
 (fSeq (fSet 8 (fMk .tuple (fCons true (fC (.str "fast")) (fCons true (fC (.str "x")) (fCons true (fBin true gMod (fBin true gDiv (fVar 7) (fC (.int 8))) (fCB gLen (fCons true (fBinV true gIx (fVar 4) (fC (.int 0))) (fNil)))) (fNil))))))
 (fSeq (fIf (fTst (fBin true gEq (fBin true gMod (fVar 7) (fC (.int 2))) (fC (.int 1))))
 (fSet 8 (fMk .tuple (fCons true (fC (.str "slow")) (fCons true (fC (.str "z")) (fCons true (fBin true gSub (fVar 9) (fBin true gMod (fBin true gDiv (fVar 7) (fC (.int 512))) (fC (.int 4)))) (fNil))))))
 (fNext))
 (fSeq (fIf (fTst (fBin true gEq (fBin true gMod (fVar 7) (fC (.int 8))) (fC (.int 2))))
 (fSet 8 (fMk .tuple (fCons true (fC (.str "slow")) (fCons true (fC (.str "y")) (fCons true (fBin true gMod (fBin true gDiv (fVar 7) (fC (.int 8))) (fCB gLen (fCons true (fVar 4) (fNil)))) (fNil))))))
 (fNext))
 (fIf (fTst (fBin true gEq (fBin true gMod (fVar 7) (fC (.int 8))) (fC (.int 4))))
 (fSet 8 (fMk .tuple (fCons true (fC (.str "fast")) (fCons true (fC (.str "z")) (fCons true (fBinV true gIx (fMk .list (fCons true (fC (.int 1000)) (fCons true (fVar 9) (fNil)))) (fBin true gMod (fBin true gDiv (fVar 7) (fC (.int 64))) (fC (.int 2)))) (fNil))))))
 (fNext))))))
 (fNext))
theorem mvA_ex (R : Rect W g) (N n0 : Int) (k : Nat) (o0 o1 o2 o3 o5 o9 o10 o11 : Option O) : ∃ (m : Mv) (k9 : Option O), mvA [o0, o1, o2, o3, some (.lf (eBed g)), o5, some (.lf (.int k)), some (.lf (.int N)), some (.lf (eMv (.hold n0))), o9, o10, o11, none] = .ok .nx [o0, o1, o2, o3, some (.lf (eBed g)), o5, some (.lf (.int k)), some (.lf (.int N)), some (.lf (eMv m)), k9, o10, o11, none] := by
  have hne := R.ne
  have hw0 := R.w0
  by_cases h1 : 0 < N % 8
  · by_cases h2 : 0 < k
    · obtain ⟨r0, hz1, hz2⟩ := R.zero
      have y0 := Int.emod_nonneg (N / 8) (show (g.length : Int) ≠ 0 by omega)
      have y1 := Int.emod_lt_of_pos (N / 8) (show (0 : Int) < g.length by omega)
      have x0 := Int.emod_nonneg (N / 64) (show (W : Int) ≠ 0 by omega)
      have x1 := Int.emod_lt_of_pos (N / 64) (show (0 : Int) < W by omega)
      obtain ⟨r, hr1, hr2⟩ := R.at y0 y1 x0 x1
      generalize hAt g (N / 64 % (W : Int)) (N / 8 % (g.length : Int)) = near at hr2
      have hg0 : 0 < (g.length : Int) := by omega
      have hW0 : 0 < (W : Int) := by omega
      obtain ⟨z, hz⟩ : ∃ z : Int, atI [PyData.int 1000, .int near] (N / 64 % 2) = some (.int z) := by
        have : N / 64 % 2 = 0 ∨ N / 64 % 2 = 1 := by omega
        rcases this with h | h <;> rw [h]
        · exact ⟨1000, rfl⟩
        · exact ⟨near, rfl⟩
      by_cases c3 : N % 8 = 4
      · have c1 : ¬ N % 2 = 1 := by omega
        exact ⟨.go false .z z, some (.lf (.int near)), by simp [-List.map_map, mvA, h2, hz1, hz2, hr1, hr2, hg0, hW0, hne, hw0, c1, c3, hz, eMv_g, line1]⟩
      · by_cases c2 : N % 8 = 2
        · have c1 : ¬ N % 2 = 1 := by omega
          exact ⟨.go true .y (N / 8 % (g.length : Int)), some (.lf (.int near)), by simp [-List.map_map, mvA, h2, hz1, hz2, hr1, hr2, hg0, hW0, hne, hw0, c1, c2, eMv_g, line1]⟩
        · by_cases c1 : N % 2 = 1
          · exact ⟨.go true .z (near - N / 512 % 4), some (.lf (.int near)), by simp [-List.map_map, mvA, h1, h2, hz1, hz2, hr1, hr2, hg0, hW0, hne, hw0, c1, c2, c3, eMv_g, line1]⟩
          · exact ⟨.go false .x (N / 8 % (W : Int)), some (.lf (.int near)), by simp [-List.map_map, mvA, h1, h2, hz1, hz2, hr1, hr2, hg0, hW0, hne, hw0, c1, c2, c3, eMv_g, line1]⟩
    · have h2' : ¬ (0 : Int) < (k : Int) := by omega
      exact ⟨.hold n0, o9, by simp [-List.map_map, mvA, h1, h2]⟩
  · exact ⟨.hold n0, o9, by simp [-List.map_map, mvA, h1]⟩
theorem copyM_eq (b : Grid) (hb : b.length ≤ 40) (o0 o1 o2 o3 o4 o5 o6 o7 o8 o9 o10 o11 : Option O) : ∃ k, vLcO [12] (tgName 12) fYes D__law_moves_2 (b.map fun r => .list (r.map .int)) [] [o0, o1, o2, o3, o4, o5, o6, o7, o8, o9, o10, o11, none] = .ok (b.map fun r => oR r) [o0, o1, o2, o3, o4, o5, o6, o7, o8, o9, o10, o11, k] := by
  obtain ⟨acc', e', hL2, rfl, k1, rfl⟩ := vLcO_inv (vs := [12]) (gt := tgName 12) (tt := fYes) (fe := D__law_moves_2) (fun i acc env => acc = (b.take i).map (fun r => oR r) ∧ ∃ k, env = [o0, o1, o2, o3, o4, o5, o6, o7, o8, o9, o10, o11, k]) (b.map fun r => .list (r.map .int)) 0 [] [o0, o1, o2, o3, o4, o5, o6, o7, o8, o9, o10, o11, none] ⟨by simp, none, rfl⟩ (by
      rintro i w' acc e2 hi ⟨rfl, k1, rfl⟩
      rw [List.getElem?_map] at hi
      cases hg : b[i]? with
      | none => rw [hg] at hi; cases hi
      | some d =>
      rw [hg] at hi
      cases hi
      refine ⟨[o0, o1, o2, o3, o4, o5, o6, o7, o8, o9, o10, o11, some (.lf (.list (d.map .int)))], true, _, by simp [wipeE], rfl, (fun h => nomatch h), fun _ => ⟨oR d, [o0, o1, o2, o3, o4, o5, o6, o7, o8, o9, o10, o11, some (.lf (.list (d.map .int)))], by simp [D__law_moves_2, oR], by simp [line1]; omega, ?_, _, rfl⟩⟩
      rw [Nat.zero_add, List.take_add_one, hg]; simp)
  rw [List.length_map, Nat.zero_add, List.take_length] at hL2
  exact ⟨_, hL2⟩
theorem copyF_eq (b : Grid) (hb : b.length ≤ 40) (o0 o1 o2 o3 o4 o5 o6 o7 o8 o9 o10 o11 : Option O) : ∃ k, vLc [12] (tgName 12) fYes C__law_moves_0 (b.map fun r => .list (r.map .int)) [] [o0, o1, o2, o3, o4, o5, o6, o7, o8, o9, o10, o11, none] = .ok (b.map fun r => .list (r.map .int)) [o0, o1, o2, o3, o4, o5, o6, o7, o8, o9, o10, o11, k] := by
  obtain ⟨e, ⟨k, rfl⟩, h⟩ := vLc_map (vs := [12]) (gt := tgName 12) (tt := fYes) (fe := C__law_moves_0) (f := fun r : List Int => .list (r.map .int)) (fun r : List Int => .list (r.map .int)) (fun e => ∃ k, e = [o0, o1, o2, o3, o4, o5, o6, o7, o8, o9, o10, o11, k]) b _ ⟨none, rfl⟩ (by rw [line1]; omega) (by
    rintro r _ e ⟨k, rfl⟩
    exact ⟨_, _, _, rfl, rfl, by simp [C__law_moves_0, wipeE]; rfl, _, rfl⟩)
  exact ⟨k, h⟩
theorem ers2 (a b : PyData) : O.ers [O.lf a, O.lf b] = some [a, b] := ers_fun (h := id) (l := [a, b])
/-- one turn: the bed, what is held, the moves so far -/
structure MInv (sh : List Cutr) (W : Nat) (b : Grid) (ms : List Mv) (s : HSt) (g : Grid) : Prop where
  len : ms.length ≤ 14
  run : runP sh W b.length s0 b ms = some (hC sh s, g)
  r : Rect W g
  l : g.length = b.length
  ok : HsOk sh W b.length s
theorem turn_ex (ns : List Int) (hcu : ∀ c ∈ sh, CutZ c) (h0 : 0 < sh.length) (o1 : Option O) {ms : List Mv} {s : HSt} {g : Grid} (I : MInv sh W b ms s g) {k : Nat} (hk : k < ns.length) (o7 o8 o9 o10 o11 : Option O) :
    ∃ ms' s' g' k7 k8 k9 k10 k11, MInv sh W b ms' s' g' ∧ L__law_moves_1 [some (.lf (.list (ns.map .int))), o1, some (.lf (.list (sh.map eCut))), some (oM ms), some (.lf (eBed g)), some (.lf (eHS s)), some (.lf (.int k)), o7, o8, o9, o10, o11, none]
      = .ok .nx [some (.lf (.list (ns.map .int))), o1, some (.lf (.list (sh.map eCut))), some (oM ms'), some (.lf (eBed g')), some (.lf (eHS s')), some (.lf (.int k)), k7, k8, k9, k10, k11, none] := by
  obtain ⟨hlen, hrun, R, hl, S⟩ := I
  obtain ⟨N, hN⟩ := wnumber ns hk
  obtain ⟨m, k9, hA⟩ := mvA_ex R N (N / 8 % (sh.length : Int)) k (some (.lf (.list (ns.map .int)))) o1 (some (.lf (.list (sh.map eCut)))) (some (oM ms)) (some (.lf (eHS s))) o9 o10 o11
  obtain ⟨k12, hC0⟩ := copyM_eq g R.le (some (.lf (.list (ns.map .int)))) o1 (some (.lf (.list (sh.map eCut)))) (some (oM ms)) (some (.lf (eBed g))) (some (.lf (eHS s))) (some (.lf (.int k))) (some (.lf (.int N))) (some (.lf (eMv m))) k9 o10 o11
  rw [← hl] at S
  have hd := wdone R S hcu m
  have hok := doneP_ok (m := m) (fun c h => (hcu c h).len) R S.sok
  have hsh0 : 0 < (sh.length : Int) := by omega
  have hsz : (g.map fun r => oR r).length ≤ 16777216 := by have := R.le; rw [List.length_map]; omega
  have t1 : Ty.sub .str .int = false := rfl
  have t2 : Ty.sub .int .int = true := rfl
  have hml : (ms.map fun m => O.lf (eMv m)).length = ms.length := List.length_map _
  -- to the last test
  have hpre : ∀ (P : Rs Fl → Prop) (B : En → Rs Fl), P (B [some (.lf (.list (ns.map .int))), o1, some (.lf (.list (sh.map eCut))), some (oM ms), some (.lf (eBed g)), some (.lf (eHS s)), some (.lf (.int k)), some (.lf (.int N)), some (.lf (eMv m)), k9, some (oG g), some (oHS s), none]) →
     P ((fSeq (fSet 7 (fCallQ F__law_number (aVal (fVar 0) (aVal (fVar 6) (aNil)))))
 (fSeq (fSet 8 (fMk .tuple (fCons true (fC (.str "hold")) (fCons true (fBin true gMod (fBin true gDiv (fVar 7) (fC (.int 8))) (fCB gLen (fCons true (fVar 2) (fNil)))) (fNil)))))
 (fSeq mvA
 (fSeq (fSetO 10 (fLcO (fIt (fVar 4)) [12] (tgName 12) (fYes) D__law_moves_2))
 (fSeq (fSetO 11 (fOList (fCons true (fVar 5) (fNil)))) B))))) [some (.lf (.list (ns.map .int))), o1, some (.lf (.list (sh.map eCut))), some (oM ms), some (.lf (eBed g)), some (.lf (eHS s)), some (.lf (.int k)), o7, o8, o9, o10, o11, none]) := fun P B hP => by
    refine stepP (e1 := [some (.lf (.list (ns.map .int))), o1, some (.lf (.list (sh.map eCut))), some (oM ms), some (.lf (eBed g)), some (.lf (eHS s)), some (.lf (.int k)), some (.lf (.int N)), o8, o9, o10, o11, none]) (by simp [-List.map_map, hN]) ?_
    refine stepP (e1 := [some (.lf (.list (ns.map .int))), o1, some (.lf (.list (sh.map eCut))), some (oM ms), some (.lf (eBed g)), some (.lf (eHS s)), some (.lf (.int k)), some (.lf (.int N)), some (.lf (eMv (.hold (N / 8 % (sh.length : Int))))), o9, o10, o11, none]) (by simp [-List.map_map, h0, hsh0, eMv_h, line1]) ?_
    refine stepP hA ?_
    refine stepP (e1 := [some (.lf (.list (ns.map .int))), o1, some (.lf (.list (sh.map eCut))), some (oM ms), some (.lf (eBed g)), some (.lf (eHS s)), some (.lf (.int k)), some (.lf (.int N)), some (.lf (eMv m)), k9, some (oG g), o11, none]) (by
      simp only [oG]
      generalize (g.map fun r => oR r) = gl at hC0 hsz ⊢
      simp [-List.map_map, okOwn, hC0, restE, line1, hsz]) ?_
    refine stepP (e1 := [some (.lf (.list (ns.map .int))), o1, some (.lf (.list (sh.map eCut))), some (oM ms), some (.lf (eBed g)), some (.lf (eHS s)), some (.lf (.int k)), some (.lf (.int N)), some (.lf (eMv m)), k9, some (oG g), some (oHS s), none]) (by
      simp [-List.map_map, line1]) ?_
    exact hP
  by_cases hgo : ms.length < 14 ∧ (doneP sh W g.length (hC sh s) g m).f = none
  · obtain ⟨hl14, hf⟩ := hgo
    have hans : DAns (doneP sh W g.length (hC sh s) g m) = .int (doneP sh W g.length (hC sh s) g m).t := by unfold DAns; rw [hf]
    rw [hans, if_pos hf] at hd
    refine ⟨ms ++ [m], hdone s m, (doneP sh W g.length (hC sh s) g m).g, some (.lf (.int N)), some (.lf (eMv m)), k9, some (.lf (eBed (doneP sh W g.length (hC sh s) g m).g)), some (.lf (eHS (hdone s m))), ⟨by rw [List.length_append, List.length_singleton]; omega, ?_, hok.2.1, by rw [hok.2.2, hl], by rw [← hl]; exact hdone_ok S hf⟩, ?_⟩
    · rw [run_app, hrun]
      show runP sh W b.length (hC sh s) g [m] = _
      rw [← hl, runP_cons hf, hdone_hC hf]
      rfl
    · unfold L__law_moves_1
      refine hpre (fun r => r = _) _ ?_
      have e1 := er_oG (doneP sh W g.length (hC sh s) g m).g
      have e2 : (oHS (hdone s m)).er = some (eHS (hdone s m)) := by simp [ers2]
      have hap : oM (ms ++ [m]) = .lst ((ms.map fun m => O.lf (eMv m)) ++ [.lf (eMv m)]) := by simp [oM]
      rw [hap]
      obtain ⟨b1, q1⟩ : ∃ l, oG g = .lst l := ⟨_, rfl⟩
      obtain ⟨b2, q2⟩ : ∃ l, oG (doneP sh W g.length (hC sh s) g m).g = .lst l := ⟨_, rfl⟩
      obtain ⟨h1, q3⟩ : ∃ l, oHS s = .lst l := ⟨_, rfl⟩
      obtain ⟨h2, q4⟩ : ∃ l, oHS (hdone s m) = .lst l := ⟨_, rfl⟩
      rw [q1, q2, q3, q4] at hd
      rw [q2] at e1
      rw [q4] at e2
      rw [q1, q3]
      simp only [oM]
      generalize (ms.map fun m => O.lf (eMv m)) = ml at hml ⊢
      have hml2 : ml.length < 16777216 := by omega
      have hli : (ms.length : Int) < 14 := by omega
      simp [-List.map_map, -er_lst, hml, hl14, hli, hd, t2, e1, e2, line1, hml2, show ms.length < 16777216 by omega]
  · refine ⟨ms, s, g, ?_⟩
    unfold L__law_moves_1
    by_cases hl14 : ms.length < 14
    · have hf : (doneP sh W g.length (hC sh s) g m).f ≠ none := fun h => hgo ⟨hl14, h⟩
      cases hff : (doneP sh W g.length (hC sh s) g m).f with
      | none => exact absurd hff hf
      | some f =>
        have hans : DAns (doneP sh W g.length (hC sh s) g m) = .str f.s := by unfold DAns; rw [hff]
        rw [hans] at hd
        refine ⟨some (.lf (.int N)), some (.lf (eMv m)), k9, some (oG (doneP sh W g.length (hC sh s) g m).g), some (oHS (if (doneP sh W g.length (hC sh s) g m).f = none then hdone s m else s)), ⟨hlen, hrun, R, hl, by rw [← hl]; exact S⟩, ?_⟩
        refine hpre (fun r => r = _) _ ?_
        obtain ⟨b1, q1⟩ : ∃ l, oG g = .lst l := ⟨_, rfl⟩
        obtain ⟨b2, q2⟩ : ∃ l, oG (doneP sh W g.length (hC sh s) g m).g = .lst l := ⟨_, rfl⟩
        obtain ⟨h1, q3⟩ : ∃ l, oHS s = .lst l := ⟨_, rfl⟩
        obtain ⟨h2, q4⟩ : ∃ l, oHS (if (doneP sh W g.length (hC sh s) g m).f = none then hdone s m else s) = .lst l := ⟨_, rfl⟩
        rw [q1, q2, q3, q4] at hd
        rw [q1, q2, q3, q4]
        simp only [oM]
        generalize (ms.map fun m => O.lf (eMv m)) = ml at hml ⊢
        have hli : (ms.length : Int) < 14 := by omega
        simp [-List.map_map, -er_lst, hml, hl14, hli, hd, t1, line1]
    · refine ⟨some (.lf (.int N)), some (.lf (eMv m)), k9, some (oG g), some (oHS s), ⟨hlen, hrun, R, hl, by rw [← hl]; exact S⟩, ?_⟩
      refine hpre (fun r => r = _) _ ?_
      obtain ⟨b1, q1⟩ : ∃ l, oG g = .lst l := ⟨_, rfl⟩
      obtain ⟨h1, q3⟩ : ∃ l, oHS s = .lst l := ⟨_, rfl⟩
      rw [q1, q3]
      simp only [oM]
      generalize (ms.map fun m => O.lf (eMv m)) = ml at hml ⊢
      have hli : ¬ (ms.length : Int) < 14 := by omega
      simp [-List.map_map, -er_lst, hml, hl14, hli, line1]
theorem wmoves (ns : List Int) (R : Rect W b) (hcu : ∀ c ∈ sh, CutZ c) (h0 : 0 < sh.length) : ∃ ms s g, MInv sh W b ms s g ∧ F__law_moves [.lf (.list (ns.map .int)), .lf (eBed b), .lf (.list (sh.map eCut))] = .ok (.lf (eMs ms)) [some (.lf (.list (ns.map .int))), some (.lf (eBed b)), some (.lf (.list (sh.map eCut)))] := by
  obtain ⟨kc, hc⟩ := copyF_eq b R.le (some (.lf (.list (ns.map .int)))) (some (.lf (eBed b))) (some (.lf (.list (sh.map eCut)))) (some (oM [])) none none none none none none none none
  obtain ⟨n, hn⟩ : ∃ n : Nat, min 63 (ns.length : Int) = n := ⟨min 63 ns.length, by omega⟩
  have hrn : rOk (n : Int) = true := rOk_nat (by omega)
  obtain ⟨e', hL, ms, s, g, k6, k7, k8, k9, k10, k11, I, rfl⟩ := vFor_rng (gt := tgName 6) (body := L__law_moves_1) n (fun i e => ∃ ms s g k6 k7 k8 k9 k10 k11, MInv sh W b ms s g ∧ e = [some (.lf (.list (ns.map .int))), some (.lf (eBed b)), some (.lf (.list (sh.map eCut))), some (oM ms), some (.lf (eBed g)), some (.lf (eHS s)), k6, k7, k8, k9, k10, k11, none]) [some (.lf (.list (ns.map .int))), some (.lf (eBed b)), some (.lf (.list (sh.map eCut))), some (oM []), some (.lf (eBed b)), some (.lf (eHS GG.h0)), none, none, none, none, none, none, none] ⟨[], GG.h0, b, none, none, none, none, none, none, ⟨by simp, rfl, R, rfl, h0_ok R.w0 R.ne⟩, rfl⟩ (by
    rintro i hi e ⟨ms, s, g, k6, k7, k8, k9, k10, k11, I, rfl⟩
    obtain ⟨ms', s', g', j7, j8, j9, j10, j11, I', hT⟩ := turn_ex ns hcu h0 (some (.lf (eBed b))) I (k := i) (by omega) k7 k8 k9 k10 k11
    exact ⟨_, _, rfl, .inl hT, ms', s', g', some (.lf (.int i)), j7, j8, j9, j10, j11, I', rfl⟩)
  refine ⟨ms, s, g, I, ?_⟩
  have he : (oM ms).er = some (eMs ms) := by
    rw [oM, show (ms.map fun m => O.lf (eMv m)) = (ms.map eMv).map .lf from (List.map_map ..).symm]
    simp [-List.map_map]
  obtain ⟨q, hq⟩ : ∃ q, oM ms = .lst q := ⟨_, rfl⟩
  rw [hq] at hL he
  have hh : eHS GG.h0 = .list [.none, .tuple [.int 0, .int 0, .int 1000]] := rfl
  rw [hh] at hL
  simp only [oM, List.map_nil] at hc hL
  have hbl : b.length ≤ 16777216 := by have := R.le; omega
  simp [-List.map_map, -er_lst, F__law_moves, fFun, B__law_moves, okOwn, hc, restE, hn, gMin_ii, hrn, hL, he, line1, hbl]
end
end GG
set_option linter.all false
set_option maxRecDepth 100000
set_option maxHeartbeats 4000000
namespace GG
open PySem PySem.Spec PyProof.Rows L2 MV
theorem dif_sh (W : Nat) (g g' : Grid) : Sh 1 (eDif W g g') := by
  unfold eDif
  cases dif W g g' with
  | none => exact Sh.none.mono (by decide)
  | some p =>
    refine Sh.tuple (n := 0) fun d hd => ?_
    simp at hd
    rcases hd with rfl | rfl | rfl | rfl <;> exact Sh.int _
theorem dif_eqv (W : Nat) (g g' : Grid) : PyData.eqv (eDif W g g') (eDif W g g') = true := by
  unfold eDif
  cases dif W g g' with
  | none => rfl
  | some p =>
    unfold wDif
    rw [eqv_tt]
    refine eqvAll_refl fun d hd => ?_
    simp at hd
    rcases hd with rfl | rfl | rfl | rfl <;> simp
theorem none_bed (g : Grid) : gEq (.lf .none) (.lf (eBed g)) = some (.bool false) := by
  rw [gEq_of (d := .none) (e := eBed g) rfl rfl rfl ((bed_sh g).shaped (by decide))]
  rfl
theorem law_true (ns : List Int) (h : ns.length ≤ 63) : ∃ ps, F_law [.lf (.list (ns.map .int))] = .ok (.lf (.bool true)) ps := by
  obtain ⟨W, b, R, hbed⟩ := wbed ns
  obtain ⟨sh, hcu, h0, h3, hsh⟩ := wshelf ns
  have hs : ∀ c ∈ sh, c.1.length ≤ 26 := fun c hc' => (hcu c hc').len
  obtain ⟨ms, s, g, I, hms⟩ := wmoves ns R hcu h0
  have hgd : Gd sh W b g ms := ⟨_, I.run⟩
  have hml := I.len
  have hw0 := walked_eq R hcu ms
  rw [I.run] at hw0
  obtain ⟨f1, fs, f1l, fmin⟩ := few_gd R hs hgd
  have w1 := fewer_eq R hs ms (by omega)
  have hap := apart_eq R hs ms (few sh W b ms) (by omega) (by omega)
  obtain ⟨tsm, k1, _⟩ := gd_carved R hs hgd
  obtain ⟨tsr, l1, _⟩ := gd_carved R hs f1
  have hwr := walked_eq R hcu (few sh W b ms)
  rw [k1, l1] at hap
  obtain ⟨sr, hrr⟩ := f1
  rw [hrr] at hwr
  generalize few sh W b ms = r at *
  have hdn : eDif W g g = .none := by unfold eDif; rw [dif_self]
  dsimp only at hap
  rw [hdn] at hap
  have hord := order_eq r ms (by omega) fs
  have hd : PyData.eqv (.list [eBed b, .list (sh.map eCut), eMs ms]) (.list [eBed b, .list (sh.map eCut), eMs ms]) = true := by
    rw [eqv_ll, eqvAll_cc, eqvAll_cc, eqvAll_cc, bed_eqv, cuts_eqv, mvs_eqv]; simp
  have hsh4 : Sh 60 (.list [eBed b, .list (sh.map eCut), eMs ms]) := by
    refine Sh.mono (Sh.list (n := 4) fun d hd => ?_) (by decide)
    simp only [List.mem_cons, List.not_mem_nil, or_false] at hd
    rcases hd with rfl | rfl | rfl
    · exact (bed_sh b).mono (by decide)
    · exact cuts_sh sh
    · exact (mvs_sh ms).mono (by decide)
  have hne : gNe (.lf (.list [eBed b, .list (sh.map eCut), eMs ms])) (.lf (.list [eBed b, .list (sh.map eCut), eMs ms])) = some (.bool false) := ne_same rfl rfl hsh4 hd
  have hgg : gNe (.lf (eBed g)) (.lf (eBed g)) = some (.bool false) := by rw [gNe_bed]; simp
  obtain ⟨O0, hO0⟩ : ∃ O0, some (O.lf (.list (ns.map .int))) = O0 := ⟨_, rfl⟩
  obtain ⟨e1, ⟨j, rfl⟩, hcp⟩ := vLc_map (vs := [11]) (gt := tgName 11) (tt := fYes) (fe := C_law_0) (f := fun r : List Int => PyData.list (r.map .int)) (fun r : List Int => PyData.list (r.map .int)) (fun e => ∃ k11, e = [O0, some (.lf (eBed b)), some (.lf (.list (sh.map eCut))), some (.lf (eMs ms)), some (.lf (eBed g)), none, none, none, none, none, none, k11, none, none]) b [O0, some (.lf (eBed b)), some (.lf (.list (sh.map eCut))), some (.lf (eMs ms)), some (.lf (eBed g)), none, none, none, none, none, none, none, none, none] ⟨none, rfl⟩ (by have := R.le; simp [line1]; omega) (by
    rintro r _ e ⟨k, rfl⟩
    exact ⟨[O0, some (.lf (eBed b)), some (.lf (.list (sh.map eCut))), some (.lf (eMs ms)), some (.lf (eBed g)), none, none, none, none, none, none, some (.lf (.list (r.map .int))), none, none], _, _, rfl, rfl, by simp [-List.map_map, C_law_0] <;> rfl, _, rfl⟩)
  obtain ⟨e2, ⟨j1, j2, rfl⟩, hcs⟩ := vLc_map (vs := [12, 13]) (gt := tgAny 2 (tgCons (tgName 12) (tgCons (tgName 13) tgNil))) (tt := fYes) (fe := C_law_1) (f := eCut) eCut (fun e => ∃ k12 k13, e = [O0, some (.lf (eBed b)), some (.lf (.list (sh.map eCut))), some (.lf (eMs ms)), some (.lf (eBed g)), none, none, none, none, none, none, none, k12, k13]) sh [O0, some (.lf (eBed b)), some (.lf (.list (sh.map eCut))), some (.lf (eMs ms)), some (.lf (eBed g)), none, none, none, none, none, none, none, none, none] ⟨none, none, rfl⟩ (by simp [line1]; omega) (by
    rintro ⟨foot, bite⟩ _ e ⟨k12, k13, rfl⟩
    exact ⟨[O0, some (.lf (eBed b)), some (.lf (.list (sh.map eCut))), some (.lf (eMs ms)), some (.lf (eBed g)), none, none, none, none, none, none, none, some (.lf (.list (foot.map wpair))), some (.lf (.int bite))], _, _, rfl, rfl, by simp [-List.map_map, C_law_1, line1] <;> rfl, some (.lf (.list (foot.map wpair))), some (.lf (.int bite)), rfl⟩)
  obtain ⟨T5, hT5⟩ : ∃ T5, PyData.list [eBed b, .list (sh.map eCut), eMs ms] = T5 := ⟨_, rfl⟩
  have hrl : r.length ≤ 14 := by omega
  have hrr3 : rOk (r.length : Int) = true := rOk_of (by omega) (by omega)
  obtain ⟨e3, hL, y7, rfl⟩ := vFor_rng (gt := tgName 7) (body := L_law_2) r.length (fun i e => ∃ k7, e = [O0, some (.lf (eBed b)), some (.lf (.list (sh.map eCut))), some (.lf (eMs ms)), some (.lf (eBed g)), some (.lf T5), some (.lf (eMs r)), k7, none, none, none, none, none, none]) [O0, some (.lf (eBed b)), some (.lf (.list (sh.map eCut))), some (.lf (eMs ms)), some (.lf (eBed g)), some (.lf T5), some (.lf (eMs r)), none, none, none, none, none, none, none] ⟨none, rfl⟩ (by
    rintro k hk e ⟨k7, rfl⟩
    have hxl := rmAt_len (l := r) (k := k) hk
    have hwx := walked_eq R hcu (rmAt r k)
    have hn := fmin k hk
    have q1 : cut (r.map eMv) none (some (k : Int)) = (r.take k).map eMv := by rw [cut_to (by omega), List.map_take]; rfl
    have q2 : cut (r.map eMv) (some ((k : Int) + 1)) none = (r.drop (k + 1)).map eMv := by rw [cut_from (by omega), List.map_drop]; congr 2
    have hsz : min k r.length + (r.length - (k + 1)) ≤ 16777216 := by omega
    have hap : (r.take k).map eMv ++ (r.drop (k + 1)).map eMv = (rmAt r k).map eMv := by rw [← List.map_append]
    refine ⟨_, _, rfl, .inl ?_, some (.lf (.int k)), rfl⟩
    simp only [List.set_cons_zero, List.set_cons_succ]
    have hfin : gEq (.lf (eWalk (runP sh W b.length s0 b (rmAt r k)))) (.lf (eBed g)) = some (.bool false) := by
      cases hx : runP sh W b.length s0 b (rmAt r k) with
      | none => exact none_bed g
      | some p =>
        obtain ⟨s', G'⟩ := p
        have hne : G' ≠ g := fun e => hn ⟨s', by rw [hx, e]⟩
        show gEq (.lf (eBed G')) (.lf (eBed g)) = _
        rw [gEq_bed, decide_eq_false hne]
    generalize eWalk (runP sh W b.length s0 b (rmAt r k)) = ww at hfin hwx
    generalize rmAt r k = x at *
    simp [-List.map_map, -List.map_take, -List.map_drop, -List.map_append, L_law_2, q1, q2, line1, hsz, hap, hwx, hfin])
  have hlf : eWalk (some (hC sh s, g)) = eBed g := rfl
  have hlr : eWalk (some (sr, g)) = eBed g := rfl
  rw [hlf] at hw0
  rw [hlr] at hwr
  have t1 : Ty.sub .list .list = true := rfl
  have hem : gEq (.lf (eMs ms)) (.lf (.list [])) = some (.bool (decide (ms = []))) := gEq_ms ms []
  obtain ⟨c2, hc2⟩ := wcell ns 2 (by decide)
  by_cases hnil : ms = []
  · refine ⟨[O0], ?_⟩
    rw [decide_eq_true hnil] at hem
    subst hT5
    rw [← hO0] at hcp hcs hL ⊢
    simp [-List.map_map, -List.map_take, -List.map_drop, -List.map_append, F_law, fFun, B_law, hbed, hsh, hms, hw0, okOwn, hcp, hcs, restE, w1, t1, hord, hwr, hgg, hrr3, hL, hap, hne, hem, line1]
  · have hm0 : 0 < ms.length := List.length_pos_iff.mpr hnil
    rw [decide_eq_false hnil] at hem
    obtain ⟨A, hA⟩ : ∃ A : Nat, c2 % (ms.length : Int) = A := ⟨(c2 % (ms.length : Int)).toNat, by have := Int.emod_nonneg c2 (show (ms.length : Int) ≠ 0 by omega); omega⟩
    have hA1 : A < ms.length := by have := Int.emod_lt_of_pos c2 (show (0 : Int) < ms.length by omega); omega
    have hxl := rmAt_len (l := ms) (k := A) hA1
    have hwo := walked_eq R hcu (rmAt ms A)
    have hap2 := apart_eq R hs ms (rmAt ms A) (by omega) (by omega)
    have q1 : cut (ms.map eMv) none (some (A : Int)) = (ms.take A).map eMv := by rw [cut_to (by omega), List.map_take]; rfl
    have q2 : cut (ms.map eMv) (some ((A : Int) + 1)) none = (ms.drop (A + 1)).map eMv := by rw [cut_from (by omega), List.map_drop]; congr 2
    have hsz : min A ms.length + (ms.length - (A + 1)) ≤ 16777216 := by omega
    have hapm : (ms.take A).map eMv ++ (ms.drop (A + 1)).map eMv = (rmAt ms A).map eMv := by rw [← List.map_append]
    have hml0 : 0 < (ms.length : Int) := by omega
    rw [k1] at hap2
    dsimp only at hap2
    cases hx : runP sh W b.length s0 b (rmAt ms A) with
    | none =>
      rw [hx] at hwo
      have hwn : eWalk none = .none := rfl
      rw [hwn] at hwo
      generalize rmAt ms A = xs at *
      refine ⟨[O0], ?_⟩
      subst hT5
      rw [← hO0] at hcp hcs hL ⊢
      simp [-List.map_map, -List.map_take, -List.map_drop, -List.map_append, F_law, fFun, B_law, hbed, hsh, hms, hw0, okOwn, hcp, hcs, restE, w1, t1, hord, hwr, hgg, hrr3, hL, hap, hne, hem, hc2, hA, hm0, hml0, q1, q2, hsz, hapm, hwo, line1]
    | some p =>
      obtain ⟨s', G'⟩ := p
      rw [hx] at hwo
      have hwn : eWalk (some (s', G')) = eBed G' := rfl
      rw [hwn] at hwo
      have hG' : (carved sh W b (rmAt ms A)).1 = G' := (run_some hx).1
      rw [hG'] at hap2
      obtain ⟨R', l', _⟩ := run_ok hs R rfl (s0_ok (sh := sh) R.w0 R.ne) hx
      have hfirst := wfirst I.r R' (by rw [l', I.l])
      have heq : gEq (.lf (eDif W g G')) (.lf (eDif W g G')) = some (.bool true) := eq_same rfl rfl ((dif_sh W g G').mono (by decide)) (dif_eqv W g G')
      generalize eDif W g G' = dd at *
      generalize rmAt ms A = xs at *
      refine ⟨[O0], ?_⟩
      subst hT5
      rw [← hO0] at hcp hcs hL ⊢
      simp [-List.map_map, -List.map_take, -List.map_drop, -List.map_append, F_law, fFun, B_law, hbed, hsh, hms, hw0, okOwn, hcp, hcs, restE, w1, t1, hord, hwr, hgg, hrr3, hL, hap, hne, hem, hc2, hA, hm0, hml0, q1, q2, hsz, hapm, hwo, hap2, hfirst, heq, line1]
end GG
namespace GG
open PySem PySem.Spec PyProof.Rows L2 MV
def topS (i : Nat) : Stmt := PySem.Challenge.pw_carvebed_k65_whole_fewer_leave_the_same.main.body.getD i (.Pass ⟨0, 0, 0, 0⟩)
abbrev s_cells_under : Stmt := topS 2
abbrev s_places_between : Stmt := topS 3
abbrev s_Carver___init__ : Stmt := inClass (topS 4) 0
abbrev s_Carver_hold_fault : Stmt := inClass (topS 4) 1
abbrev s_Carver_move_fault : Stmt := inClass (topS 4) 2
abbrev s_Carver_swept : Stmt := inClass (topS 4) 3
abbrev s_Carver_gone : Stmt := inClass (topS 4) 4
abbrev s_met : Stmt := topS 5
abbrev s_cut_down : Stmt := topS 6
abbrev s_done_move : Stmt := topS 7
abbrev s_carved : Stmt := topS 8
abbrev s_leaves : Stmt := topS 10
abbrev s_fewer : Stmt := topS 11
abbrev s_told_apart : Stmt := topS 12
abbrev s__law_cell_at : Stmt := topS 14
abbrev s__law_mixed : Stmt := topS 15
abbrev s__law_numbers : Stmt := topS 16
abbrev s__law_number : Stmt := topS 17
abbrev s__law_bed : Stmt := topS 18
abbrev s__law_cutter : Stmt := topS 19
abbrev s__law_shelf : Stmt := topS 20
abbrev s__law_under : Stmt := topS 21
abbrev s__law_way : Stmt := topS 22
abbrev s__law_done : Stmt := topS 23
abbrev s__law_moves : Stmt := topS 24
abbrev s__law_walked : Stmt := topS 25
abbrev s__law_within : Stmt := topS 26
abbrev s__law_first : Stmt := topS 27
abbrev s_law : Stmt := topS 28
structure Tx (K : PySem.W.Frag) (mg : Str → Option Value) (A : Nat → Addr) (D : Nat → FuncData) (G : Nat → Addr) : Prop where
  F0 : Fun K "cells_under" "cells_under" s_cells_under (A 0) (D 0)
  M0 : mg "cells_under" = some (.ref (A 0))
  B0 : Binds K (D 0) ["foot", "x", "y", "wide", "deep"] []
  F1 : Fun K "places_between" "places_between" s_places_between (A 1) (D 1)
  M1 : mg "places_between" = some (.ref (A 1))
  B1 : Binds K (D 1) ["x", "y", "axis", "to"] []
  F2 : Fun K "__init__" "Carver.__init__" s_Carver___init__ (A 2) (D 2)
  B2 : Binds K (D 2) ["self", "shelf", "wide", "deep"] []
  F3 : Fun K "hold_fault" "Carver.hold_fault" s_Carver_hold_fault (A 3) (D 3)
  me3 : Meth K (G 0) "hold_fault" (A 3)
  B3 : Binds K (D 3) ["self", "number"] []
  F4 : Fun K "move_fault" "Carver.move_fault" s_Carver_move_fault (A 4) (D 4)
  me4 : Meth K (G 0) "move_fault" (A 4)
  B4 : Binds K (D 4) ["self", "axis", "to"] []
  F5 : Fun K "swept" "Carver.swept" s_Carver_swept (A 5) (D 5)
  me5 : Meth K (G 0) "swept" (A 5)
  B5 : Binds K (D 5) ["self", "axis", "to"] []
  F6 : Fun K "gone" "Carver.gone" s_Carver_gone (A 6) (D 6)
  me6 : Meth K (G 0) "gone" (A 6)
  B6 : Binds K (D 6) ["self", "axis", "to"] []
  F7 : Fun K "met" "met" s_met (A 7) (D 7)
  M7 : mg "met" = some (.ref (A 7))
  B7 : Binds K (D 7) ["heights", "cells", "most"] []
  F8 : Fun K "cut_down" "cut_down" s_cut_down (A 8) (D 8)
  M8 : mg "cut_down" = some (.ref (A 8))
  B8 : Binds K (D 8) ["heights", "cells", "low"] []
  F9 : Fun K "done_move" "done_move" s_done_move (A 9) (D 9)
  M9 : mg "done_move" = some (.ref (A 9))
  B9 : Binds K (D 9) ["carver", "heights", "move"] []
  F10 : Fun K "carved" "carved" s_carved (A 10) (D 10)
  M10 : mg "carved" = some (.ref (A 10))
  B10 : Binds K (D 10) ["bed", "shelf", "moves"] []
  F11 : Fun K "leaves" "leaves" s_leaves (A 11) (D 11)
  M11 : mg "leaves" = some (.ref (A 11))
  B11 : Binds K (D 11) ["bed", "shelf", "moves", "wanted"] []
  F12 : Fun K "fewer" "fewer" s_fewer (A 12) (D 12)
  M12 : mg "fewer" = some (.ref (A 12))
  B12 : Binds K (D 12) ["bed", "shelf", "moves"] []
  F13 : Fun K "told_apart" "told_apart" s_told_apart (A 13) (D 13)
  M13 : mg "told_apart" = some (.ref (A 13))
  B13 : Binds K (D 13) ["bed", "shelf", "moves", "others"] []
  F14 : Fun K "_law_cell_at" "_law_cell_at" s__law_cell_at (A 14) (D 14)
  M14 : mg "_law_cell_at" = some (.ref (A 14))
  B14 : Binds K (D 14) ["script", "k"] []
  F15 : Fun K "_law_mixed" "_law_mixed" s__law_mixed (A 15) (D 15)
  M15 : mg "_law_mixed" = some (.ref (A 15))
  B15 : Binds K (D 15) ["cell", "k"] []
  F16 : Fun K "_law_numbers" "_law_numbers" s__law_numbers (A 16) (D 16)
  M16 : mg "_law_numbers" = some (.ref (A 16))
  B16 : Binds K (D 16) ["script", "k", "many"] []
  F17 : Fun K "_law_number" "_law_number" s__law_number (A 17) (D 17)
  M17 : mg "_law_number" = some (.ref (A 17))
  B17 : Binds K (D 17) ["script", "k"] []
  F18 : Fun K "_law_bed" "_law_bed" s__law_bed (A 18) (D 18)
  M18 : mg "_law_bed" = some (.ref (A 18))
  B18 : Binds K (D 18) ["script"] []
  F19 : Fun K "_law_cutter" "_law_cutter" s__law_cutter (A 19) (D 19)
  M19 : mg "_law_cutter" = some (.ref (A 19))
  B19 : Binds K (D 19) ["numbers"] []
  F20 : Fun K "_law_shelf" "_law_shelf" s__law_shelf (A 20) (D 20)
  M20 : mg "_law_shelf" = some (.ref (A 20))
  B20 : Binds K (D 20) ["script"] []
  F21 : Fun K "_law_under" "_law_under" s__law_under (A 21) (D 21)
  M21 : mg "_law_under" = some (.ref (A 21))
  B21 : Binds K (D 21) ["bed", "foot", "x", "y"] []
  F22 : Fun K "_law_way" "_law_way" s__law_way (A 22) (D 22)
  M22 : mg "_law_way" = some (.ref (A 22))
  B22 : Binds K (D 22) ["place", "axis", "to"] []
  F23 : Fun K "_law_done" "_law_done" s__law_done (A 23) (D 23)
  M23 : mg "_law_done" = some (.ref (A 23))
  B23 : Binds K (D 23) ["bed", "shelf", "held", "move"] []
  F24 : Fun K "_law_moves" "_law_moves" s__law_moves (A 24) (D 24)
  M24 : mg "_law_moves" = some (.ref (A 24))
  B24 : Binds K (D 24) ["script", "bed", "shelf"] []
  F25 : Fun K "_law_walked" "_law_walked" s__law_walked (A 25) (D 25)
  M25 : mg "_law_walked" = some (.ref (A 25))
  B25 : Binds K (D 25) ["bed", "shelf", "moves"] []
  F26 : Fun K "_law_within" "_law_within" s__law_within (A 26) (D 26)
  M26 : mg "_law_within" = some (.ref (A 26))
  B26 : Binds K (D 26) ["some", "moves"] []
  F27 : Fun K "_law_first" "_law_first" s__law_first (A 27) (D 27)
  M27 : mg "_law_first" = some (.ref (A 27))
  B27 : Binds K (D 27) ["one", "other"] []
  F28 : Fun K "law" "law" s_law (A 28) (D 28)
  M28 : mg "law" = some (.ref (A 28))
  B28 : Binds K (D 28) ["script"] []
  nm_Carver : PySem.W.nsIn K PySem.mainGlobals "Carver" = some (some (.ref (G 0)))
  gC_Carver : mg "Carver" = some (.ref (G 0))
  cl_Carver : Cls K (G 0)
  mk_Carver : Mk K (G 0) (A 2)
  na_Carver_shelf : NoAttr K (G 0) "shelf"
  na_Carver_wide : NoAttr K (G 0) "wide"
  na_Carver_deep : NoAttr K (G 0) "deep"
  na_Carver_cutter : NoAttr K (G 0) "cutter"
  na_Carver_x : NoAttr K (G 0) "x"
  na_Carver_y : NoAttr K (G 0) "y"
  na_Carver_z : NoAttr K (G 0) "z"
  z_int : mg "int" = none
  z_isinstance : mg "isinstance" = none
  z_len : mg "len" = none
  z_list : mg "list" = none
  z_max : mg "max" = none
  z_min : mg "min" = none
  z_range : mg "range" = none
  G_TOP : ∃ t, mg "TOP" = some (.int 1000 t)
section
variable {P : Program} {w : World} {K : PySem.W.Frag} {mg : Str → Option Value} {base : Heap} {A : Nat → Addr} {D : Nat → FuncData} {G : Nat → Addr}
theorem S_cells_under : FnScope N_cells_under ["foot", "x", "y", "wide", "deep"] (defScope s_cells_under) := ⟨rfl, rfl, rfl, by decide +kernel, rfl, by decide +kernel, by decide +kernel⟩
theorem ok_cells_under (T : Tx K mg A D G) : FnOk P w K mg base (L2.CX P w) 1 (A 0) (D 0) ["foot", "x", "y", "wide", "deep"] (spM K mg 5 F_cells_under) :=
 fun_okD (k := 0) (kp := (fun j => [0, 1, 2, 3, 4].contains j)) (body := B_cells_under) (n := 5) (NN := 7) (Fm := F_cells_under) (by unfold F_cells_under; rfl) (by rfl) (by rfl) T.F0 S_cells_under (by decide) fun cdv A0 outer s H E hr tk po => by
 unfold B_cells_under C_cells_under_0
 exact (vss_one (vs_ret (ve_lc (own := [("dx", 5), ("dy", 6)]) rfl S_cells_under.nd (vi_any (ve_var (i := 0))) (blkOk_by (N := N_cells_under) (own := [("dx", 5), ("dy", 6)]) (by first | decide +kernel | with_unfolding_all rfl)) (fun _ _ _ _ _ => (vg_any rfl (vgs_cons (vg_name (i := 5) S_cells_under.nd rfl (by first | exact Or.inl rfl | exact Or.inr rfl)) (vgs_cons (vg_name (i := 6) S_cells_under.nd rfl (by first | exact Or.inl rfl | exact Or.inr rfl)) vgs_nil)))) (fun _ _ _ _ _ => (vts_one (VW.vt (vw_and (vt_chain op_le op_lt ops_le ops_lt ve_int (ve_bin op_addA ops_add (ve_var (i := 1)) (ve_var (i := 5))) (ve_var (i := 3))) (vw_and1 (vt_chain op_le op_lt ops_le ops_lt ve_int (ve_bin op_addA ops_add (ve_var (i := 2)) (ve_var (i := 6))) (ve_var (i := 4)))))))) (fun _ _ _ _ _ => (ve_tup (va_cons (ve_bin op_addA ops_add (ve_var (i := 1)) (ve_var (i := 5))) (va_cons (ve_bin op_addA ops_add (ve_var (i := 2)) (ve_var (i := 6))) va_nil)))))))
theorem S_places_between : FnScope N_places_between ["x", "y", "axis", "to"] (defScope s_places_between) := ⟨rfl, rfl, rfl, by decide +kernel, rfl, by decide +kernel, by decide +kernel⟩
theorem ok_places_between (T : Tx K mg A D G) : FnOk P w K mg base (L2.CX P w) 1 (A 1) (D 1) ["x", "y", "axis", "to"] (spM K mg 4 F_places_between) :=
 fun_okD (k := 0) (kp := (fun j => [0, 1, 2, 3].contains j)) (body := B_places_between) (n := 4) (NN := 5) (Fm := F_places_between) (by unfold F_places_between; rfl) (by rfl) (by rfl) T.F1 S_places_between (by decide) fun cdv A0 outer s H E hr tk po => by
 unfold B_places_between C_places_between_0 C_places_between_1
 exact (vss_cons (vs_if (vt_cmp (op_eqD (hu64 hr)) ops_eq (ve_var (i := 2)) ve_str (nomark _))
 (vss_one (vs_ret (ve_lc (own := [("at", 4)]) rfl S_places_between.nd (vi_rng2 (by rfl) T.z_range (va_cons (ve_cb (call_minA rfl) cals_min (by rfl) T.z_min (by decide +kernel) (va_cons (ve_var (i := 0)) (va_cons (ve_var (i := 3)) va_nil))) (va_cons (ve_bin op_addA ops_add (ve_cb (call_maxA rfl) cals_max (by rfl) T.z_max (by decide +kernel) (va_cons (ve_var (i := 0)) (va_cons (ve_var (i := 3)) va_nil))) ve_int) va_nil))) (blkOk_by (N := N_places_between) (own := [("at", 4)]) (by first | decide +kernel | with_unfolding_all rfl)) (fun _ _ _ _ _ => (vg_name (i := 4) S_places_between.nd rfl (by first | exact Or.inl rfl | exact Or.inr rfl))) (fun _ _ _ _ _ => vts_nil) (fun _ _ _ _ _ => (ve_tup (va_cons (ve_var (i := 4)) (va_cons (ve_var (i := 1)) va_nil)))))))
 vss_nil)
 (vss_cons (vs_if (vt_cmp (op_eqD (hu64 hr)) ops_eq (ve_var (i := 2)) ve_str (nomark _))
 (vss_one (vs_ret (ve_lc (own := [("at", 4)]) rfl S_places_between.nd (vi_rng2 (by rfl) T.z_range (va_cons (ve_cb (call_minA rfl) cals_min (by rfl) T.z_min (by decide +kernel) (va_cons (ve_var (i := 1)) (va_cons (ve_var (i := 3)) va_nil))) (va_cons (ve_bin op_addA ops_add (ve_cb (call_maxA rfl) cals_max (by rfl) T.z_max (by decide +kernel) (va_cons (ve_var (i := 1)) (va_cons (ve_var (i := 3)) va_nil))) ve_int) va_nil))) (blkOk_by (N := N_places_between) (own := [("at", 4)]) (by first | decide +kernel | with_unfolding_all rfl)) (fun _ _ _ _ _ => (vg_name (i := 4) S_places_between.nd rfl (by first | exact Or.inl rfl | exact Or.inr rfl))) (fun _ _ _ _ _ => vts_nil) (fun _ _ _ _ _ => (ve_tup (va_cons (ve_var (i := 0)) (va_cons (ve_var (i := 4)) va_nil)))))))
 vss_nil)
 (vss_one (vs_ret (ve_lst (va_cons (ve_tup (va_cons (ve_var (i := 0)) (va_cons (ve_var (i := 1)) va_nil))) va_nil))))))
theorem S_Carver___init__ : FnScope N_Carver___init__ ["self", "shelf", "wide", "deep"] (defScope s_Carver___init__) := ⟨rfl, rfl, rfl, by decide +kernel, rfl, by decide +kernel, by decide +kernel⟩
theorem ok_Carver___init__ (T : Tx K mg A D G) : FnOk P w K mg base (L2.CX P w) 1 (A 2) (D 2) ["self", "shelf", "wide", "deep"] (spM K mg 4 F_Carver___init__) :=
 fun_okD (k := 0) (kp := (fun j => [0, 1, 2, 3].contains j)) (body := B_Carver___init__) (n := 4) (NN := 4) (Fm := F_Carver___init__) (by unfold F_Carver___init__; rfl) (by rfl) (by rfl) T.F2 S_Carver___init__ (by decide) fun cdv A0 outer s H E hr tk po => by
 unfold B_Carver___init__
 exact (vss_cons (vs_fld (n := "Carver") (j := 0) (na_of T.nm_Carver T.na_Carver_shelf) (ve_ct call_list_of cals_list (by rfl) T.z_list (by decide +kernel) (va_cons (ve_var (i := 1)) va_nil)) (ve_var (i := 0)))
 (vss_cons (vs_fld (n := "Carver") (j := 1) (na_of T.nm_Carver T.na_Carver_wide) (ve_var (i := 2)) (ve_var (i := 0)))
 (vss_cons (vs_fld (n := "Carver") (j := 2) (na_of T.nm_Carver T.na_Carver_deep) (ve_var (i := 3)) (ve_var (i := 0)))
 (vss_cons (vs_fld (n := "Carver") (j := 3) (na_of T.nm_Carver T.na_Carver_cutter) ve_none (ve_var (i := 0)))
 (vss_cons (vs_fld (n := "Carver") (j := 4) (na_of T.nm_Carver T.na_Carver_x) ve_int (ve_var (i := 0)))
 (vss_cons (vs_fld (n := "Carver") (j := 5) (na_of T.nm_Carver T.na_Carver_y) ve_int (ve_var (i := 0)))
 (vss_one (vs_fld (n := "Carver") (j := 6) (na_of T.nm_Carver T.na_Carver_z) (ve_glob (v := .int 1000) rfl T.G_TOP.choose_spec ⟨_, rfl⟩ (fun _ _ => .int _)) (ve_var (i := 0))))))))))
theorem S_Carver_hold_fault : FnScope N_Carver_hold_fault ["self", "number"] (defScope s_Carver_hold_fault) := ⟨rfl, rfl, rfl, by decide +kernel, rfl, by decide +kernel, by decide +kernel⟩
theorem ok_Carver_hold_fault (T : Tx K mg A D G) : FnOk P w K mg base (L2.CX P w) 1 (A 3) (D 3) ["self", "number"] (spM K mg 2 F_Carver_hold_fault) :=
 fun_okD (k := 0) (kp := (fun j => [0, 1].contains j)) (body := B_Carver_hold_fault) (n := 2) (NN := 2) (Fm := F_Carver_hold_fault) (by unfold F_Carver_hold_fault; rfl) (by rfl) (by rfl) T.F3 S_Carver_hold_fault (by decide) fun cdv A0 outer s H E hr tk po => by
 unfold B_Carver_hold_fault
 exact (vss_cons (vs_if (VW.vt (vw_or (vt_cmp op_lt ops_lt (ve_var (i := 1)) ve_int (nomark _)) (vw_or1 (vt_cmp op_ge ops_ge (ve_var (i := 1)) (ve_cb call_len cals_len (by rfl) T.z_len (by decide +kernel) (va_cons (ve_fld (j := 0) (ve_var (i := 0))) va_nil)) (nomark _)))))
 (vss_one (vs_ret (ve_tup (va_cons ve_str va_nil))))
 vss_nil)
 (vss_cons (vs_if (vt_cmp (op_neD (hu64 hr)) ops_ne (ve_fld (j := 6) (ve_var (i := 0))) (ve_glob (v := .int 1000) rfl T.G_TOP.choose_spec ⟨_, rfl⟩ (fun _ _ => .int _)) (nomark _))
 (vss_one (vs_ret (ve_tup (va_cons ve_str va_nil))))
 vss_nil)
 (vss_one (vs_ret ve_none))))
theorem S_Carver_move_fault : FnScope N_Carver_move_fault ["self", "axis", "to"] (defScope s_Carver_move_fault) := ⟨rfl, rfl, rfl, by decide +kernel, rfl, by decide +kernel, by decide +kernel⟩
theorem ok_Carver_move_fault (T : Tx K mg A D G) : FnOk P w K mg base (L2.CX P w) 1 (A 4) (D 4) ["self", "axis", "to"] (spM K mg 3 F_Carver_move_fault) :=
 fun_okD (k := 0) (kp := (fun j => [0, 1, 2].contains j)) (body := B_Carver_move_fault) (n := 3) (NN := 4) (Fm := F_Carver_move_fault) (by unfold F_Carver_move_fault; rfl) (by rfl) (by rfl) T.F4 S_Carver_move_fault (by decide) fun cdv A0 outer s H E hr tk po => by
 unfold B_Carver_move_fault
 exact (vss_cons (vs_if (vt_cmp op_isN ops_isN (ve_fld (j := 3) (ve_var (i := 0))) ve_none (nomark _))
 (vss_one (vs_ret (ve_tup (va_cons ve_str va_nil))))
 vss_nil)
 (vss_cons (vs_set (i := 3) S_Carver_move_fault.nd rfl (by first | exact Or.inl rfl | exact Or.inr rfl) (ve_glob (v := .int 1000) rfl T.G_TOP.choose_spec ⟨_, rfl⟩ (fun _ _ => .int _)))
 (vss_cons (vs_if (vt_cmp (op_eqD (hu64 hr)) ops_eq (ve_var (i := 1)) ve_str (nomark _))
 (vss_one (vs_set (i := 3) S_Carver_move_fault.nd rfl (by first | exact Or.inl rfl | exact Or.inr rfl) (ve_bin op_sub ops_sub (ve_fld (j := 1) (ve_var (i := 0))) ve_int)))
 vss_nil)
 (vss_cons (vs_if (vt_cmp (op_eqD (hu64 hr)) ops_eq (ve_var (i := 1)) ve_str (nomark _))
 (vss_one (vs_set (i := 3) S_Carver_move_fault.nd rfl (by first | exact Or.inl rfl | exact Or.inr rfl) (ve_bin op_sub ops_sub (ve_fld (j := 2) (ve_var (i := 0))) ve_int)))
 vss_nil)
 (vss_cons (vs_if (VW.vt (vw_or (vt_cmp op_lt ops_lt (ve_var (i := 2)) ve_int (nomark _)) (vw_or1 (vt_cmp op_gt ops_gt (ve_var (i := 2)) (ve_var (i := 3)) (nomark _)))))
 (vss_one (vs_ret (ve_tup (va_cons ve_str va_nil))))
 vss_nil)
 (vss_one (vs_ret ve_none)))))))
theorem S_Carver_gone : FnScope N_Carver_gone ["self", "axis", "to"] (defScope s_Carver_gone) := ⟨rfl, rfl, rfl, by decide +kernel, rfl, by decide +kernel, by decide +kernel⟩
theorem ok_Carver_gone (T : Tx K mg A D G) : FnOk P w K mg base (L2.CX P w) 1 (A 6) (D 6) ["self", "axis", "to"] (spM K mg 3 F_Carver_gone) :=
 fun_okD (k := 0) (kp := (fun j => [0, 1, 2].contains j)) (body := B_Carver_gone) (n := 3) (NN := 3) (Fm := F_Carver_gone) (by unfold F_Carver_gone; rfl) (by rfl) (by rfl) T.F6 S_Carver_gone (by decide) fun cdv A0 outer s H E hr tk po => by
 unfold B_Carver_gone
 exact (vss_one (vs_if (vt_cmp (op_eqD (hu64 hr)) ops_eq (ve_var (i := 1)) ve_str (nomark _))
 (vss_one (vs_fld (n := "Carver") (j := 4) (na_of T.nm_Carver T.na_Carver_x) (ve_var (i := 2)) (ve_var (i := 0))))
 (vss_one (vs_if (vt_cmp (op_eqD (hu64 hr)) ops_eq (ve_var (i := 1)) ve_str (nomark _))
 (vss_one (vs_fld (n := "Carver") (j := 5) (na_of T.nm_Carver T.na_Carver_y) (ve_var (i := 2)) (ve_var (i := 0))))
 (vss_one (vs_fld (n := "Carver") (j := 6) (na_of T.nm_Carver T.na_Carver_z) (ve_var (i := 2)) (ve_var (i := 0))))))))
theorem S_met : FnScope N_met ["heights", "cells", "most"] (defScope s_met) := ⟨rfl, rfl, rfl, by decide +kernel, rfl, by decide +kernel, by decide +kernel⟩
theorem ok_met (T : Tx K mg A D G) : FnOk P w K mg base (L2.CX P w) 1 (A 7) (D 7) ["heights", "cells", "most"] (spM K mg 3 F_met) :=
 fun_okD (k := 0) (kp := (fun j => [0, 1, 2].contains j)) (body := B_met) (n := 3) (NN := 5) (Fm := F_met) (by unfold F_met; rfl) (by rfl) (by rfl) T.F7 S_met (by decide) fun cdv A0 outer s H E hr tk po => by
 unfold B_met L_met_0
 exact (vss_cons (vs_for po rfl (vi_any (ve_var (i := 1))) (vg_any rfl (vgs_cons (vg_name (i := 3) S_met.nd rfl (by first | exact Or.inl rfl | exact Or.inr rfl)) (vgs_cons (vg_name (i := 4) S_met.nd rfl (by first | exact Or.inl rfl | exact Or.inr rfl)) vgs_nil)))
 (vss_one (vs_if (vt_cmp op_gt ops_gt (ve_ix (ve_ix (ve_var (i := 0)) (ve_var (i := 4))) (ve_var (i := 3))) (ve_var (i := 2)) (nomark _))
 (vss_one (vs_ret ve_bool))
 vss_nil)))
 (vss_one (vs_ret ve_bool)))
theorem S_cut_down : FnScope N_cut_down ["heights", "cells", "low"] (defScope s_cut_down) := ⟨rfl, rfl, rfl, by decide +kernel, rfl, by decide +kernel, by decide +kernel⟩
theorem ok_cut_down (T : Tx K mg A D G) : FnOk P w K mg base (L2.CX P w) 1 (A 8) (D 8) ["heights", "cells", "low"] (spM K mg 3 F_cut_down) :=
 fun_okD (k := 0) (kp := (fun j => [0, 1, 2].contains j)) (body := B_cut_down) (n := 3) (NN := 6) (Fm := F_cut_down) (by unfold F_cut_down; rfl) (by rfl) (by rfl) T.F8 S_cut_down (by decide) fun cdv A0 outer s H E hr tk po => by
 unfold B_cut_down L_cut_down_0
 exact (vss_cons (vs_set (i := 3) S_cut_down.nd rfl (by first | exact Or.inl rfl | exact Or.inr rfl) ve_int)
 (vss_cons (vs_for po rfl (vi_any (ve_var (i := 1))) (vg_any rfl (vgs_cons (vg_name (i := 4) S_cut_down.nd rfl (by first | exact Or.inl rfl | exact Or.inr rfl)) (vgs_cons (vg_name (i := 5) S_cut_down.nd rfl (by first | exact Or.inl rfl | exact Or.inr rfl)) vgs_nil)))
 (vss_one (vs_if (vt_cmp op_gt ops_gt (ve_ix (ve_ix (ve_var (i := 0)) (ve_var (i := 5))) (ve_var (i := 4))) (ve_var (i := 2)) (nomark _))
 (vss_cons (vs_aug op_augA ops_augA S_cut_down.nd (i := 3) rfl (by first | exact Or.inl rfl | exact Or.inr rfl) (ve_bin op_sub ops_sub (ve_ix (ve_ix (ve_var (i := 0)) (ve_var (i := 5))) (ve_var (i := 4))) (ve_var (i := 2))))
 (vss_one (vs_put (ve_var (i := 2)) (ve_ix (ve_var (i := 0)) (ve_var (i := 5))) (ve_var (i := 4)))))
 vss_nil)))
 (vss_one (vs_ret (ve_var (i := 3))))))
theorem S__law_cell_at : FnScope N__law_cell_at ["script", "k"] (defScope s__law_cell_at) := ⟨rfl, rfl, rfl, by decide +kernel, rfl, by decide +kernel, by decide +kernel⟩
theorem ok__law_cell_at (T : Tx K mg A D G) : FnOk P w K mg base (L2.CX P w) 1 (A 14) (D 14) ["script", "k"] (spM K mg 2 F__law_cell_at) :=
 fun_okD (k := 0) (kp := (fun j => [0, 1].contains j)) (body := B__law_cell_at) (n := 2) (NN := 2) (Fm := F__law_cell_at) (by unfold F__law_cell_at; rfl) (by rfl) (by rfl) T.F14 S__law_cell_at (by decide) fun cdv A0 outer s H E hr tk po => by
 unfold B__law_cell_at
 exact (vss_cons (vs_if (vt_cmp op_lt ops_lt (ve_var (i := 1)) (ve_cb call_len cals_len (by rfl) T.z_len (by decide +kernel) (va_cons (ve_var (i := 0)) va_nil)) (nomark _))
 (vss_one (vs_ret (ve_ix (ve_var (i := 0)) (ve_var (i := 1)))))
 vss_nil)
 (vss_one (vs_ret ve_int)))
theorem S__law_mixed : FnScope N__law_mixed ["cell", "k"] (defScope s__law_mixed) := ⟨rfl, rfl, rfl, by decide +kernel, rfl, by decide +kernel, by decide +kernel⟩
theorem ok__law_mixed (T : Tx K mg A D G) : FnOk P w K mg base (L2.CX P w) 1 (A 15) (D 15) ["cell", "k"] (spM K mg 2 F__law_mixed) :=
 fun_okD (k := 0) (kp := (fun j => [0, 1].contains j)) (body := B__law_mixed) (n := 2) (NN := 3) (Fm := F__law_mixed) (by unfold F__law_mixed; rfl) (by rfl) (by rfl) T.F15 S__law_mixed (by decide) fun cdv A0 outer s H E hr tk po => by
 unfold B__law_mixed
 exact (vss_cons (vs_set (i := 2) S__law_mixed.nd rfl (by first | exact Or.inl rfl | exact Or.inr rfl) (ve_bin op_mod ops_mod (ve_bin op_addA ops_add (ve_bin op_addA ops_add (ve_bin op_mod ops_mod (ve_var (i := 0)) ve_int) (ve_bin op_mul ops_mul ve_int (ve_var (i := 1)))) ve_int) ve_int))
 (vss_cons (vs_set (i := 2) S__law_mixed.nd rfl (by first | exact Or.inl rfl | exact Or.inr rfl) (ve_bin op_addA ops_add (ve_bin op_mod ops_mod (ve_bin op_mul ops_mul (ve_var (i := 2)) (ve_var (i := 2))) ve_int) (ve_bin op_fdiv ops_div (ve_var (i := 2)) ve_int)))
 (vss_one (vs_ret (ve_bin op_mod ops_mod (ve_bin op_mul ops_mul (ve_var (i := 2)) ve_int) ve_int)))))
theorem S__law_cutter : FnScope N__law_cutter ["numbers"] (defScope s__law_cutter) := ⟨rfl, rfl, rfl, by decide +kernel, rfl, by decide +kernel, by decide +kernel⟩
theorem ok__law_cutter (T : Tx K mg A D G) : FnOk P w K mg base (L2.CX P w) 1 (A 19) (D 19) ["numbers"] (spM K mg 1 F__law_cutter) :=
 fun_okD (k := 0) (kp := (fun j => [0].contains j)) (body := B__law_cutter) (n := 1) (NN := 4) (Fm := F__law_cutter) (by unfold F__law_cutter; rfl) (by rfl) (by rfl) T.F19 S__law_cutter (by decide) fun cdv A0 outer s H E hr tk po => by
 unfold B__law_cutter L__law_cutter_0
 exact (vss_cons (vs_setO (i := 1) S__law_cutter.nd rfl (by first | exact Or.inl rfl | exact Or.inr rfl) (vo_lst (va_cons (ve_tup (va_cons ve_int (va_cons ve_int va_nil))) va_nil)))
 (vss_cons (vs_for po rfl (vi_any (ve_sl (ve_var (i := 0)) (vo_some ve_int) (vo_some (ve_bin op_addA ops_add ve_int (ve_bin op_mod ops_mod (ve_ix (ve_var (i := 0)) ve_int) ve_int))))) (vg_name (i := 2) S__law_cutter.nd rfl (by first | exact Or.inl rfl | exact Or.inr rfl))
 (vss_cons (vs_set (i := 3) S__law_cutter.nd rfl (by first | exact Or.inl rfl | exact Or.inr rfl) (ve_tup (va_cons (ve_bin op_sub ops_sub (ve_bin op_mod ops_mod (ve_var (i := 2)) ve_int) ve_int) (va_cons (ve_bin op_sub ops_sub (ve_bin op_mod ops_mod (ve_bin op_fdiv ops_div (ve_var (i := 2)) ve_int) ve_int) ve_int) va_nil))))
 (vss_one (vs_if (vt_cmp (op_notInA (hu65 hr)) ops_notInA (ve_var (i := 3)) (ve_var (i := 1)) (by with_unfolding_all rfl))
 (vss_one (vs_app (i := 1) (ve_var (i := 3))))
 vss_nil))))
 (vss_one (vs_ret (ve_tup (va_cons (ve_frz (i := 1)) (va_cons (ve_bin op_addA ops_add ve_int (ve_bin op_mod ops_mod (ve_bin op_fdiv ops_div (ve_ix (ve_var (i := 0)) ve_int) ve_int) (ve_ix (ve_lst (va_cons ve_int (va_cons ve_int va_nil))) (ve_bin op_mod ops_mod (ve_ix (ve_var (i := 0)) ve_int) ve_int)))) va_nil)))))))
theorem S__law_under : FnScope N__law_under ["bed", "foot", "x", "y"] (defScope s__law_under) := ⟨rfl, rfl, rfl, by decide +kernel, rfl, by decide +kernel, by decide +kernel⟩
theorem ok__law_under (T : Tx K mg A D G) : FnOk P w K mg base (L2.CX P w) 1 (A 21) (D 21) ["bed", "foot", "x", "y"] (spM K mg 4 F__law_under) :=
 fun_okD (k := 0) (kp := (fun j => [0, 1, 2, 3].contains j)) (body := B__law_under) (n := 4) (NN := 7) (Fm := F__law_under) (by unfold F__law_under; rfl) (by rfl) (by rfl) T.F21 S__law_under (by decide) fun cdv A0 outer s H E hr tk po => by
 unfold B__law_under L__law_under_0
 exact (vss_cons (vs_setO (i := 4) S__law_under.nd rfl (by first | exact Or.inl rfl | exact Or.inr rfl) (vo_lst va_nil))
 (vss_cons (vs_for po rfl (vi_any (ve_var (i := 1))) (vg_any rfl (vgs_cons (vg_name (i := 5) S__law_under.nd rfl (by first | exact Or.inl rfl | exact Or.inr rfl)) (vgs_cons (vg_name (i := 6) S__law_under.nd rfl (by first | exact Or.inl rfl | exact Or.inr rfl)) vgs_nil)))
 (vss_one (vs_if (VW.vt (vw_and (vt_chain op_le op_lt ops_le ops_lt ve_int (ve_bin op_addA ops_add (ve_var (i := 2)) (ve_var (i := 5))) (ve_cb call_len cals_len (by rfl) T.z_len (by decide +kernel) (va_cons (ve_ix (ve_var (i := 0)) ve_int) va_nil))) (vw_and1 (vt_chain op_le op_lt ops_le ops_lt ve_int (ve_bin op_addA ops_add (ve_var (i := 3)) (ve_var (i := 6))) (ve_cb call_len cals_len (by rfl) T.z_len (by decide +kernel) (va_cons (ve_var (i := 0)) va_nil))))))
 (vss_one (vs_app (i := 4) (ve_tup (va_cons (ve_bin op_addA ops_add (ve_var (i := 2)) (ve_var (i := 5))) (va_cons (ve_bin op_addA ops_add (ve_var (i := 3)) (ve_var (i := 6))) va_nil)))))
 vss_nil)))
 (vss_one (vs_ret (ve_frz (i := 4))))))
theorem S__law_way : FnScope N__law_way ["place", "axis", "to"] (defScope s__law_way) := ⟨rfl, rfl, rfl, by decide +kernel, rfl, by decide +kernel, by decide +kernel⟩
theorem ok__law_way (T : Tx K mg A D G) : FnOk P w K mg base (L2.CX P w) 1 (A 22) (D 22) ["place", "axis", "to"] (spM K mg 3 F__law_way) :=
 fun_okD (k := 0) (kp := (fun j => [0, 1, 2].contains j)) (body := B__law_way) (n := 3) (NN := 7) (Fm := F__law_way) (by unfold F__law_way; rfl) (by rfl) (by rfl) T.F22 S__law_way (by decide) fun cdv A0 outer s H E hr tk po => by
 unfold B__law_way C__law_way_0 C__law_way_1
 exact (vss_cons (vs_asg (ve_var (i := 0)) (vg_any rfl (vgs_cons (vg_name (i := 3) S__law_way.nd rfl (by first | exact Or.inl rfl | exact Or.inr rfl)) (vgs_cons (vg_name (i := 4) S__law_way.nd rfl (by first | exact Or.inl rfl | exact Or.inr rfl)) (vgs_cons (vg_name (i := 5) S__law_way.nd rfl (by first | exact Or.inl rfl | exact Or.inr rfl)) vgs_nil)))))
 (vss_cons (vs_if (vt_cmp (op_eqD (hu64 hr)) ops_eq (ve_var (i := 1)) ve_str (nomark _))
 (vss_one (vs_ret (ve_lst (va_cons (ve_tup (va_cons (ve_var (i := 3)) (va_cons (ve_var (i := 4)) va_nil))) va_nil))))
 vss_nil)
 (vss_cons (vs_if (vt_cmp (op_eqD (hu64 hr)) ops_eq (ve_var (i := 1)) ve_str (nomark _))
 (vss_one (vs_ret (ve_lc (own := [("here", 6)]) rfl S__law_way.nd (vi_rng2 (by rfl) T.z_range (va_cons (ve_cb (call_minA rfl) cals_min (by rfl) T.z_min (by decide +kernel) (va_cons (ve_var (i := 3)) (va_cons (ve_var (i := 2)) va_nil))) (va_cons (ve_bin op_addA ops_add (ve_cb (call_maxA rfl) cals_max (by rfl) T.z_max (by decide +kernel) (va_cons (ve_var (i := 3)) (va_cons (ve_var (i := 2)) va_nil))) ve_int) va_nil))) (blkOk_by (N := N__law_way) (own := [("here", 6)]) (by first | decide +kernel | with_unfolding_all rfl)) (fun _ _ _ _ _ => (vg_name (i := 6) S__law_way.nd rfl (by first | exact Or.inl rfl | exact Or.inr rfl))) (fun _ _ _ _ _ => vts_nil) (fun _ _ _ _ _ => (ve_tup (va_cons (ve_var (i := 6)) (va_cons (ve_var (i := 4)) va_nil)))))))
 vss_nil)
 (vss_one (vs_ret (ve_lc (own := [("here", 6)]) rfl S__law_way.nd (vi_rng2 (by rfl) T.z_range (va_cons (ve_cb (call_minA rfl) cals_min (by rfl) T.z_min (by decide +kernel) (va_cons (ve_var (i := 4)) (va_cons (ve_var (i := 2)) va_nil))) (va_cons (ve_bin op_addA ops_add (ve_cb (call_maxA rfl) cals_max (by rfl) T.z_max (by decide +kernel) (va_cons (ve_var (i := 4)) (va_cons (ve_var (i := 2)) va_nil))) ve_int) va_nil))) (blkOk_by (N := N__law_way) (own := [("here", 6)]) (by first | decide +kernel | with_unfolding_all rfl)) (fun _ _ _ _ _ => (vg_name (i := 6) S__law_way.nd rfl (by first | exact Or.inl rfl | exact Or.inr rfl))) (fun _ _ _ _ _ => vts_nil) (fun _ _ _ _ _ => (ve_tup (va_cons (ve_var (i := 3)) (va_cons (ve_var (i := 6)) va_nil))))))))))
theorem S__law_within : FnScope N__law_within ["some", "moves"] (defScope s__law_within) := ⟨rfl, rfl, rfl, by decide +kernel, rfl, by decide +kernel, by decide +kernel⟩
theorem ok__law_within (T : Tx K mg A D G) : FnOk P w K mg base (L2.CX P w) 1 (A 26) (D 26) ["some", "moves"] (spM K mg 2 F__law_within) :=
 fun_okD (k := 0) (kp := (fun j => [0, 1].contains j)) (body := B__law_within) (n := 2) (NN := 4) (Fm := F__law_within) (by unfold F__law_within; rfl) (by rfl) (by rfl) T.F26 S__law_within (by decide) fun cdv A0 outer s H E hr tk po => by
 unfold B__law_within L__law_within_0 L__law_within_1
 exact (vss_cons (vs_set (i := 2) S__law_within.nd rfl (by first | exact Or.inl rfl | exact Or.inr rfl) ve_int)
 (vss_cons (vs_for po rfl (vi_any (ve_var (i := 0))) (vg_name (i := 3) S__law_within.nd rfl (by first | exact Or.inl rfl | exact Or.inr rfl))
 (vss_cons (vs_while po (VW.vt (vw_and (vt_cmp op_lt ops_lt (ve_var (i := 2)) (ve_cb call_len cals_len (by rfl) T.z_len (by decide +kernel) (va_cons (ve_var (i := 1)) va_nil)) (nomark _)) (vw_and1 (vt_cmp (op_neD (hu64 hr)) ops_ne (ve_ix (ve_var (i := 1)) (ve_var (i := 2))) (ve_var (i := 3)) (nomark _)))))
 (vss_one (vs_set (i := 2) S__law_within.nd rfl (by first | exact Or.inl rfl | exact Or.inr rfl) (ve_bin op_addA ops_add (ve_var (i := 2)) ve_int))))
 (vss_cons (vs_if (vt_cmp (op_eqD (hu64 hr)) ops_eq (ve_var (i := 2)) (ve_cb call_len cals_len (by rfl) T.z_len (by decide +kernel) (va_cons (ve_var (i := 1)) va_nil)) (nomark _))
 (vss_one (vs_ret ve_bool))
 vss_nil)
 (vss_one (vs_set (i := 2) S__law_within.nd rfl (by first | exact Or.inl rfl | exact Or.inr rfl) (ve_bin op_addA ops_add (ve_var (i := 2)) ve_int))))))
 (vss_one (vs_ret ve_bool))))
theorem S__law_first : FnScope N__law_first ["one", "other"] (defScope s__law_first) := ⟨rfl, rfl, rfl, by decide +kernel, rfl, by decide +kernel, by decide +kernel⟩
theorem ok__law_first (T : Tx K mg A D G) : FnOk P w K mg base (L2.CX P w) 1 (A 27) (D 27) ["one", "other"] (spM K mg 2 F__law_first) :=
 fun_okD (k := 0) (kp := (fun j => [0, 1].contains j)) (body := B__law_first) (n := 2) (NN := 4) (Fm := F__law_first) (by unfold F__law_first; rfl) (by rfl) (by rfl) T.F27 S__law_first (by decide) fun cdv A0 outer s H E hr tk po => by
 unfold B__law_first L__law_first_0 L__law_first_1
 exact (vss_cons (vs_for po rfl (vi_rng1 (by rfl) T.z_range (va_cons (ve_cb call_len cals_len (by rfl) T.z_len (by decide +kernel) (va_cons (ve_var (i := 0)) va_nil)) va_nil)) (vg_name (i := 2) S__law_first.nd rfl (by first | exact Or.inl rfl | exact Or.inr rfl))
 (vss_one (vs_for po rfl (vi_rng1 (by rfl) T.z_range (va_cons (ve_cb call_len cals_len (by rfl) T.z_len (by decide +kernel) (va_cons (ve_ix (ve_var (i := 0)) ve_int) va_nil)) va_nil)) (vg_name (i := 3) S__law_first.nd rfl (by first | exact Or.inl rfl | exact Or.inr rfl))
 (vss_one (vs_if (vt_cmp (op_neD (hu64 hr)) ops_ne (ve_ix (ve_ix (ve_var (i := 0)) (ve_var (i := 2))) (ve_var (i := 3))) (ve_ix (ve_ix (ve_var (i := 1)) (ve_var (i := 2))) (ve_var (i := 3))) (nomark _))
 (vss_one (vs_ret (ve_tup (va_cons (ve_var (i := 3)) (va_cons (ve_var (i := 2)) (va_cons (ve_ix (ve_ix (ve_var (i := 0)) (ve_var (i := 2))) (ve_var (i := 3))) (va_cons (ve_ix (ve_ix (ve_var (i := 1)) (ve_var (i := 2))) (ve_var (i := 3))) va_nil)))))))
 vss_nil)))))
 (vss_one (vs_ret ve_none)))
theorem S_Carver_swept : FnScope N_Carver_swept ["self", "axis", "to"] (defScope s_Carver_swept) := ⟨rfl, rfl, rfl, by decide +kernel, rfl, by decide +kernel, by decide +kernel⟩
theorem ok_Carver_swept (T : Tx K mg A D G) : FnOk P w K mg base (L2.CX P w) 2 (A 5) (D 5) ["self", "axis", "to"] (spM K mg 3 F_Carver_swept) :=
 fun_okD (k := 1) (kp := (fun j => [0, 1, 2].contains j)) (body := B_Carver_swept) (n := 3) (NN := 8) (Fm := F_Carver_swept) (by unfold F_Carver_swept; rfl) (by rfl) (by rfl) T.F5 S_Carver_swept (by decide) fun cdv A0 outer s H E hr tk po => by
 unfold B_Carver_swept L_Carver_swept_0 L_Carver_swept_1
 exact (vss_cons (vs_setO (i := 3) S_Carver_swept.nd rfl (by first | exact Or.inl rfl | exact Or.inr rfl) vo_dnewT)
 (vss_cons (vs_for po rfl (vi_any (ve_call tk (ok_places_between T) (hr.mono (by decide)) (by rfl) T.M1 T.F1.kp T.B1 (vac_val (ve_fld (j := 4) (ve_var (i := 0))) (vac_val (ve_fld (j := 5) (ve_var (i := 0))) (vac_val (ve_var (i := 1)) (vac_val (ve_var (i := 2)) vac_nil)))))) (vg_any rfl (vgs_cons (vg_name (i := 4) S_Carver_swept.nd rfl (by first | exact Or.inl rfl | exact Or.inr rfl)) (vgs_cons (vg_name (i := 5) S_Carver_swept.nd rfl (by first | exact Or.inl rfl | exact Or.inr rfl)) vgs_nil)))
 (vss_one (vs_for po rfl (vi_any (ve_call tk (ok_cells_under T) (hr.mono (by decide)) (by rfl) T.M0 T.F0.kp T.B0 (vac_val (ve_ix (ve_fld (j := 3) (ve_var (i := 0))) ve_int) (vac_val (ve_var (i := 4)) (vac_val (ve_var (i := 5)) (vac_val (ve_fld (j := 1) (ve_var (i := 0))) (vac_val (ve_fld (j := 2) (ve_var (i := 0))) vac_nil))))))) (vg_name (i := 6) S_Carver_swept.nd rfl (by first | exact Or.inl rfl | exact Or.inr rfl))
 (vss_one (vs_dput (hu_of hr) ve_bool (ve_var (i := 3)) (ve_var (i := 6)))))))
 (vss_cons (vs_set (i := 7) S_Carver_swept.nd rfl (by first | exact Or.inl rfl | exact Or.inr rfl) (ve_fld (j := 6) (ve_var (i := 0))))
 (vss_cons (vs_if (vt_cmp (op_eqD (hu64 hr)) ops_eq (ve_var (i := 1)) ve_str (nomark _))
 (vss_one (vs_set (i := 7) S_Carver_swept.nd rfl (by first | exact Or.inl rfl | exact Or.inr rfl) (ve_cb (call_minA rfl) cals_min (by rfl) T.z_min (by decide +kernel) (va_cons (ve_fld (j := 6) (ve_var (i := 0))) (va_cons (ve_var (i := 2)) va_nil)))))
 vss_nil)
 (vss_one (vs_ret (ve_tup (va_cons (ve_ct (call_list_dT rfl) cals_listT (by rfl) T.z_list (by decide +kernel) (va_cons (ve_var (i := 3)) va_nil)) (va_cons (ve_var (i := 7)) va_nil)))))))))
theorem S__law_numbers : FnScope N__law_numbers ["script", "k", "many"] (defScope s__law_numbers) := ⟨rfl, rfl, rfl, by decide +kernel, rfl, by decide +kernel, by decide +kernel⟩
theorem ok__law_numbers (T : Tx K mg A D G) : FnOk P w K mg base (L2.CX P w) 2 (A 16) (D 16) ["script", "k", "many"] (spM K mg 3 F__law_numbers) :=
 fun_okD (k := 1) (kp := (fun j => [0, 1, 2].contains j)) (body := B__law_numbers) (n := 3) (NN := 6) (Fm := F__law_numbers) (by unfold F__law_numbers; rfl) (by rfl) (by rfl) T.F16 S__law_numbers (by decide) fun cdv A0 outer s H E hr tk po => by
 unfold B__law_numbers L__law_numbers_0
 exact (vss_cons (vs_set (i := 3) S__law_numbers.nd rfl (by first | exact Or.inl rfl | exact Or.inr rfl) (ve_call tk (ok__law_cell_at T) (hr.mono (by decide)) (by rfl) T.M14 T.F14.kp T.B14 (vac_val (ve_var (i := 0)) (vac_val (ve_var (i := 1)) vac_nil))))
 (vss_cons (vs_setO (i := 4) S__law_numbers.nd rfl (by first | exact Or.inl rfl | exact Or.inr rfl) (vo_lst va_nil))
 (vss_cons (vs_for po rfl (vi_rng1 (by rfl) T.z_range (va_cons (ve_var (i := 2)) va_nil)) (vg_name (i := 5) S__law_numbers.nd rfl (by first | exact Or.inl rfl | exact Or.inr rfl))
 (vss_one (vs_if (vt_cmp (op_eqD (hu64 hr)) ops_eq (ve_bin op_mod ops_mod (ve_call tk (ok__law_cell_at T) (hr.mono (by decide)) (by rfl) T.M14 T.F14.kp T.B14 (vac_val (ve_var (i := 0)) (vac_val ve_int vac_nil))) ve_int) ve_int (nomark _))
 (vss_cons (vs_app (i := 4) (ve_bin op_mod ops_mod (ve_var (i := 3)) ve_int))
 (vss_one (vs_set (i := 3) S__law_numbers.nd rfl (by first | exact Or.inl rfl | exact Or.inr rfl) (ve_bin op_fdiv ops_div (ve_var (i := 3)) ve_int))))
 (vss_one (vs_app (i := 4) (ve_call tk (ok__law_mixed T) (hr.mono (by decide)) (by rfl) T.M15 T.F15.kp T.B15 (vac_val (ve_call tk (ok__law_cell_at T) (hr.mono (by decide)) (by rfl) T.M14 T.F14.kp T.B14 (vac_val (ve_var (i := 0)) (vac_val (ve_bin op_mod ops_mod (ve_bin op_addA ops_add (ve_var (i := 1)) (ve_var (i := 5))) (ve_cb (call_maxA rfl) cals_max (by rfl) T.z_max (by decide +kernel) (va_cons ve_int (va_cons (ve_cb (call_minA rfl) cals_min (by rfl) T.z_min (by decide +kernel) (va_cons ve_int (va_cons (ve_cb call_len cals_len (by rfl) T.z_len (by decide +kernel) (va_cons (ve_var (i := 0)) va_nil)) va_nil))) va_nil)))) vac_nil))) (vac_val (ve_bin op_addA ops_add (ve_bin op_mul ops_mul ve_int (ve_var (i := 1))) (ve_var (i := 5))) vac_nil))))))))
 (vss_one (vs_ret (ve_frz (i := 4)))))))
theorem S__law_number : FnScope N__law_number ["script", "k"] (defScope s__law_number) := ⟨rfl, rfl, rfl, by decide +kernel, rfl, by decide +kernel, by decide +kernel⟩
theorem ok__law_number (T : Tx K mg A D G) : FnOk P w K mg base (L2.CX P w) 2 (A 17) (D 17) ["script", "k"] (spM K mg 2 F__law_number) :=
 fun_okD (k := 1) (kp := (fun j => [0, 1].contains j)) (body := B__law_number) (n := 2) (NN := 2) (Fm := F__law_number) (by unfold F__law_number; rfl) (by rfl) (by rfl) T.F17 S__law_number (by decide) fun cdv A0 outer s H E hr tk po => by
 unfold B__law_number
 exact (vss_cons (vs_if (vt_cmp (op_eqD (hu64 hr)) ops_eq (ve_bin op_mod ops_mod (ve_call tk (ok__law_cell_at T) (hr.mono (by decide)) (by rfl) T.M14 T.F14.kp T.B14 (vac_val (ve_var (i := 0)) (vac_val ve_int vac_nil))) ve_int) ve_int (nomark _))
 (vss_one (vs_ret (ve_ix (ve_var (i := 0)) (ve_var (i := 1)))))
 vss_nil)
 (vss_one (vs_ret (ve_call tk (ok__law_mixed T) (hr.mono (by decide)) (by rfl) T.M15 T.F15.kp T.B15 (vac_val (ve_ix (ve_var (i := 0)) (ve_var (i := 1))) (vac_val (ve_bin op_addA ops_add ve_int (ve_var (i := 1))) vac_nil))))))
theorem S__law_done : FnScope N__law_done ["bed", "shelf", "held", "move"] (defScope s__law_done) := ⟨rfl, rfl, rfl, by decide +kernel, rfl, by decide +kernel, by decide +kernel⟩
theorem ok__law_done (T : Tx K mg A D G) : FnOk P w K mg base (L2.CX P w) 2 (A 23) (D 23) ["bed", "shelf", "held", "move"] (spM K mg 4 F__law_done) :=
 fun_okD (k := 1) (kp := (fun j => [0, 1, 2, 3].contains j)) (body := B__law_done) (n := 4) (NN := 15) (Fm := F__law_done) (by unfold F__law_done; rfl) (by rfl) (by rfl) T.F23 S__law_done (by decide) fun cdv A0 outer s H E hr tk po => by
 unfold B__law_done L__law_done_0 L__law_done_1 L__law_done_2
 exact (vss_cons (vs_if (vt_cmp (op_eqD (hu64 hr)) ops_eq (ve_ix (ve_var (i := 3)) ve_int) ve_str (nomark _))
 (vss_cons (vs_if (VW.vt (vw_or (vt_cmp op_lt ops_lt (ve_ix (ve_var (i := 3)) ve_int) ve_int (nomark _)) (vw_or1 (vt_cmp op_ge ops_ge (ve_ix (ve_var (i := 3)) ve_int) (ve_cb call_len cals_len (by rfl) T.z_len (by decide +kernel) (va_cons (ve_var (i := 1)) va_nil)) (nomark _)))))
 (vss_one (vs_ret ve_str))
 vss_nil)
 (vss_cons (vs_if (vt_cmp (op_neD (hu64 hr)) ops_ne (ve_ix (ve_ix (ve_var (i := 2)) ve_int) ve_int) ve_int (nomark _))
 (vss_one (vs_ret ve_str))
 vss_nil)
 (vss_cons (vs_put (ve_ix (ve_var (i := 3)) ve_int) (ve_var (i := 2)) ve_int)
 (vss_one (vs_ret ve_int)))))
 vss_nil)
 (vss_cons (vs_if (vt_cmp op_isN ops_isN (ve_ix (ve_var (i := 2)) ve_int) ve_none (nomark _))
 (vss_one (vs_ret ve_str))
 vss_nil)
 (vss_cons (vs_asg (ve_var (i := 3)) (vg_any rfl (vgs_cons (vg_name (i := 4) S__law_done.nd rfl (by first | exact Or.inl rfl | exact Or.inr rfl)) (vgs_cons (vg_name (i := 5) S__law_done.nd rfl (by first | exact Or.inl rfl | exact Or.inr rfl)) (vgs_cons (vg_name (i := 6) S__law_done.nd rfl (by first | exact Or.inl rfl | exact Or.inr rfl)) vgs_nil)))))
 (vss_cons (vs_set (i := 7) S__law_done.nd rfl (by first | exact Or.inl rfl | exact Or.inr rfl) (ve_index (hu65 hr) (ve_lst (va_cons ve_str (va_cons ve_str (va_cons ve_str va_nil)))) (ve_var (i := 5))))
 (vss_cons (vs_if (VW.vt (vw_or (vt_cmp op_lt ops_lt (ve_var (i := 6)) ve_int (nomark _)) (vw_or1 (vt_cmp op_gt ops_gt (ve_var (i := 6)) (ve_ix (ve_lst (va_cons (ve_bin op_sub ops_sub (ve_cb call_len cals_len (by rfl) T.z_len (by decide +kernel) (va_cons (ve_ix (ve_var (i := 0)) ve_int) va_nil)) ve_int) (va_cons (ve_bin op_sub ops_sub (ve_cb call_len cals_len (by rfl) T.z_len (by decide +kernel) (va_cons (ve_var (i := 0)) va_nil)) ve_int) (va_cons ve_int va_nil)))) (ve_var (i := 7))) (nomark _)))))
 (vss_one (vs_ret ve_str))
 vss_nil)
 (vss_cons (vs_set (i := 8) S__law_done.nd rfl (by first | exact Or.inl rfl | exact Or.inr rfl) (ve_ix (ve_ix (ve_var (i := 2)) ve_int) ve_int))
 (vss_cons (vs_if (vt_cmp (op_eqD (hu64 hr)) ops_eq (ve_var (i := 5)) ve_str (nomark _))
 (vss_one (vs_set (i := 8) S__law_done.nd rfl (by first | exact Or.inl rfl | exact Or.inr rfl) (ve_cb (call_minA rfl) cals_min (by rfl) T.z_min (by decide +kernel) (va_cons (ve_var (i := 8)) (va_cons (ve_var (i := 6)) va_nil)))))
 vss_nil)
 (vss_cons (vs_setO (i := 9) S__law_done.nd rfl (by first | exact Or.inl rfl | exact Or.inr rfl) vo_dnewT)
 (vss_cons (vs_for po rfl (vi_any (ve_call tk (ok__law_way T) (hr.mono (by decide)) (by rfl) T.M22 T.F22.kp T.B22 (vac_val (ve_ix (ve_var (i := 2)) ve_int) (vac_val (ve_var (i := 5)) (vac_val (ve_var (i := 6)) vac_nil))))) (vg_any rfl (vgs_cons (vg_name (i := 10) S__law_done.nd rfl (by first | exact Or.inl rfl | exact Or.inr rfl)) (vgs_cons (vg_name (i := 11) S__law_done.nd rfl (by first | exact Or.inl rfl | exact Or.inr rfl)) vgs_nil)))
 (vss_one (vs_for po rfl (vi_any (ve_call tk (ok__law_under T) (hr.mono (by decide)) (by rfl) T.M21 T.F21.kp T.B21 (vac_mv (i := 0) (vac_val (ve_ix (ve_ix (ve_var (i := 1)) (ve_ix (ve_var (i := 2)) ve_int)) ve_int) (vac_val (ve_var (i := 10)) (vac_val (ve_var (i := 11)) vac_nil)))))) (vg_name (i := 12) S__law_done.nd rfl (by first | exact Or.inl rfl | exact Or.inr rfl))
 (vss_one (vs_dput (hu_of hr) (ve_ix (ve_ix (ve_var (i := 0)) (ve_ix (ve_var (i := 12)) ve_int)) (ve_ix (ve_var (i := 12)) ve_int)) (ve_var (i := 9)) (ve_var (i := 12)))))))
 (vss_cons (vs_set (i := 13) S__law_done.nd rfl (by first | exact Or.inl rfl | exact Or.inr rfl) (ve_maxD (by rfl) (by rfl) T.z_max (ve_var (i := 9))))
 (vss_cons (vs_if (VW.vt (vw_and (vt_cmp (op_eqD (hu64 hr)) ops_eq (ve_var (i := 4)) ve_str (nomark _)) (vw_and1 (vt_cmp op_gt ops_gt (ve_var (i := 13)) (ve_var (i := 8)) (nomark _)))))
 (vss_one (vs_ret ve_str))
 vss_nil)
 (vss_cons (vs_if (VW.vt (vw_and (vt_cmp (op_eqD (hu64 hr)) ops_eq (ve_var (i := 4)) ve_str (nomark _)) (vw_and1 (vt_cmp op_gt ops_gt (ve_var (i := 13)) (ve_bin op_addA ops_add (ve_var (i := 8)) (ve_ix (ve_ix (ve_var (i := 1)) (ve_ix (ve_var (i := 2)) ve_int)) ve_int)) (nomark _)))))
 (vss_one (vs_ret ve_str))
 vss_nil)
 (vss_cons (vs_set (i := 14) S__law_done.nd rfl (by first | exact Or.inl rfl | exact Or.inr rfl) ve_int)
 (vss_cons (vs_forD (i := 9) po rfl rfl (vg_any rfl (vgs_cons (vg_name (i := 10) S__law_done.nd rfl (by first | exact Or.inl rfl | exact Or.inr rfl)) (vgs_cons (vg_name (i := 11) S__law_done.nd rfl (by first | exact Or.inl rfl | exact Or.inr rfl)) vgs_nil)))
 (vss_cons (vs_aug op_augA ops_augA S__law_done.nd (i := 14) rfl (by first | exact Or.inl rfl | exact Or.inr rfl) (ve_cb (call_maxA rfl) cals_max (by rfl) T.z_max (by decide +kernel) (va_cons ve_int (va_cons (ve_bin op_sub ops_sub (ve_ix (ve_ix (ve_var (i := 0)) (ve_var (i := 11))) (ve_var (i := 10))) (ve_var (i := 8))) va_nil))))
 (vss_one (vs_put (ve_cb (call_minA rfl) cals_min (by rfl) T.z_min (by decide +kernel) (va_cons (ve_ix (ve_ix (ve_var (i := 0)) (ve_var (i := 11))) (ve_var (i := 10))) (va_cons (ve_var (i := 8)) va_nil))) (ve_ix (ve_var (i := 0)) (ve_var (i := 11))) (ve_var (i := 10))))))
 (vss_cons (vs_put (ve_bin op_catA ops_catT (ve_bin op_catA ops_catT (ve_sl (ve_ix (ve_var (i := 2)) ve_int) vo_none (vo_some (ve_var (i := 7)))) (ve_tup (va_cons (ve_var (i := 6)) va_nil))) (ve_sl (ve_ix (ve_var (i := 2)) ve_int) (vo_some (ve_bin op_addA ops_add (ve_var (i := 7)) ve_int)) vo_none)) (ve_var (i := 2)) ve_int)
 (vss_one (vs_ret (ve_var (i := 14)))))))))))))))))))
theorem S_done_move : FnScope N_done_move ["carver", "heights", "move"] (defScope s_done_move) := ⟨rfl, rfl, rfl, by decide +kernel, rfl, by decide +kernel, by decide +kernel⟩
theorem ok_done_move (T : Tx K mg A D G) : FnOk P w K mg base (L2.CX P w) 3 (A 9) (D 9) ["carver", "heights", "move"] (spM K mg 3 F_done_move) :=
 fun_okD (k := 2) (kp := (fun j => [0, 1, 2].contains j)) (body := B_done_move) (n := 3) (NN := 10) (Fm := F_done_move) (by unfold F_done_move; rfl) (by rfl) (by rfl) T.F9 S_done_move (by decide) fun cdv A0 outer s H E hr tk po => by
 unfold B_done_move
 exact (vss_cons (vs_if (vt_cmp (op_eqD (hu64 hr)) ops_eq (ve_ix (ve_var (i := 2)) ve_int) ve_str (nomark _))
 (vss_cons (vs_set (i := 3) S_done_move.nd rfl (by first | exact Or.inl rfl | exact Or.inr rfl) (VO.ve (vo_meth (i := 0) tk ⟨T.nm_Carver, T.cl_Carver, T.me3⟩ (ok_Carver_hold_fault T) (hr.mono (by decide)) T.B3 (vac_val (ve_ix (ve_var (i := 2)) ve_int) vac_nil))))
 (vss_cons (vs_if (vt_cmp op_isN ops_isN (ve_var (i := 3)) ve_none (nomark _))
 (vss_one (vs_fld (n := "Carver") (j := 3) (na_of T.nm_Carver T.na_Carver_cutter) (ve_ix (ve_fld (j := 0) (ve_var (i := 0))) (ve_ix (ve_var (i := 2)) ve_int)) (ve_var (i := 0))))
 vss_nil)
 (vss_one (vs_ret (ve_tup (va_cons ve_int (va_cons (ve_var (i := 3)) va_nil)))))))
 vss_nil)
 (vss_cons (vs_asg (ve_var (i := 2)) (vg_any rfl (vgs_cons (vg_name (i := 4) S_done_move.nd rfl (by first | exact Or.inl rfl | exact Or.inr rfl)) (vgs_cons (vg_name (i := 5) S_done_move.nd rfl (by first | exact Or.inl rfl | exact Or.inr rfl)) (vgs_cons (vg_name (i := 6) S_done_move.nd rfl (by first | exact Or.inl rfl | exact Or.inr rfl)) vgs_nil)))))
 (vss_cons (vs_set (i := 3) S_done_move.nd rfl (by first | exact Or.inl rfl | exact Or.inr rfl) (VO.ve (vo_meth (i := 0) tk ⟨T.nm_Carver, T.cl_Carver, T.me4⟩ (ok_Carver_move_fault T) (hr.mono (by decide)) T.B4 (vac_val (ve_var (i := 5)) (vac_val (ve_var (i := 6)) vac_nil)))))
 (vss_cons (vs_if (vt_cmp op_notN ops_notN (ve_var (i := 3)) ve_none (nomark _))
 (vss_one (vs_ret (ve_tup (va_cons ve_int (va_cons (ve_var (i := 3)) va_nil)))))
 vss_nil)
 (vss_cons (vs_asg (VO.ve (vo_meth (i := 0) tk ⟨T.nm_Carver, T.cl_Carver, T.me5⟩ (ok_Carver_swept T) (hr.mono (by decide)) T.B5 (vac_val (ve_var (i := 5)) (vac_val (ve_var (i := 6)) vac_nil)))) (vg_any rfl (vgs_cons (vg_name (i := 7) S_done_move.nd rfl (by first | exact Or.inl rfl | exact Or.inr rfl)) (vgs_cons (vg_name (i := 8) S_done_move.nd rfl (by first | exact Or.inl rfl | exact Or.inr rfl)) vgs_nil))))
 (vss_cons (vs_if (VW.vt (vw_and (vt_cmp (op_eqD (hu64 hr)) ops_eq (ve_var (i := 4)) ve_str (nomark _)) (vw_and1 (vt_tru (ve_callB (n := 3) tk (ok_met T) (hr.mono (by decide)) (by rfl) T.M7 T.F7.kp T.B7 (va_cons (ve_var (i := 1)) (va_cons (ve_var (i := 7)) (va_cons (ve_var (i := 8)) va_nil))))))))
 (vss_one (vs_ret (ve_tup (va_cons ve_int (va_cons (ve_tup (va_cons ve_str va_nil)) va_nil)))))
 vss_nil)
 (vss_cons (vs_if (VW.vt (vw_and (vt_cmp (op_eqD (hu64 hr)) ops_eq (ve_var (i := 4)) ve_str (nomark _)) (vw_and1 (vt_tru (ve_callB (n := 3) tk (ok_met T) (hr.mono (by decide)) (by rfl) T.M7 T.F7.kp T.B7 (va_cons (ve_var (i := 1)) (va_cons (ve_var (i := 7)) (va_cons (ve_bin op_addA ops_add (ve_var (i := 8)) (ve_ix (ve_fld (j := 3) (ve_var (i := 0))) ve_int)) va_nil))))))))
 (vss_one (vs_ret (ve_tup (va_cons ve_int (va_cons (ve_tup (va_cons ve_str va_nil)) va_nil)))))
 vss_nil)
 (vss_cons (vs_set (i := 9) S_done_move.nd rfl (by first | exact Or.inl rfl | exact Or.inr rfl) ve_int)
 (vss_cons (vs_if (vt_cmp (op_eqD (hu64 hr)) ops_eq (ve_var (i := 4)) ve_str (nomark _))
 (vss_one (vs_set (i := 9) S_done_move.nd rfl (by first | exact Or.inl rfl | exact Or.inr rfl) (ve_call tk (ok_cut_down T) (hr.mono (by decide)) (by rfl) T.M8 T.F8.kp T.B8 (vac_mv (i := 1) (vac_val (ve_var (i := 7)) (vac_val (ve_var (i := 8)) vac_nil))))))
 vss_nil)
 (vss_cons (vs_expr (VO.ve (vo_meth (i := 0) tk ⟨T.nm_Carver, T.cl_Carver, T.me6⟩ (ok_Carver_gone T) (hr.mono (by decide)) T.B6 (vac_val (ve_var (i := 5)) (vac_val (ve_var (i := 6)) vac_nil)))))
 (vss_one (vs_ret (ve_tup (va_cons (ve_var (i := 9)) (va_cons ve_none va_nil)))))))))))))))
theorem S__law_bed : FnScope N__law_bed ["script"] (defScope s__law_bed) := ⟨rfl, rfl, rfl, by decide +kernel, rfl, by decide +kernel, by decide +kernel⟩
theorem ok__law_bed (T : Tx K mg A D G) : FnOk P w K mg base (L2.CX P w) 3 (A 18) (D 18) ["script"] (spM K mg 1 F__law_bed) :=
 fun_okD (k := 2) (kp := (fun j => [0].contains j)) (body := B__law_bed) (n := 1) (NN := 7) (Fm := F__law_bed) (by unfold F__law_bed; rfl) (by rfl) (by rfl) T.F18 S__law_bed (by decide) fun cdv A0 outer s H E hr tk po => by
 unfold B__law_bed C__law_bed_0 C__law_bed_1
 exact (vss_cons (vs_set (i := 1) S__law_bed.nd rfl (by first | exact Or.inl rfl | exact Or.inr rfl) (ve_bin op_fdiv ops_div (ve_call tk (ok__law_cell_at T) (hr.mono (by decide)) (by rfl) T.M14 T.F14.kp T.B14 (vac_val (ve_var (i := 0)) (vac_val ve_int vac_nil))) ve_int))
 (vss_cons (vs_set (i := 2) S__law_bed.nd rfl (by first | exact Or.inl rfl | exact Or.inr rfl) (ve_bin op_addA ops_add ve_int (ve_bin op_mod ops_mod (ve_var (i := 1)) ve_int)))
 (vss_cons (vs_set (i := 3) S__law_bed.nd rfl (by first | exact Or.inl rfl | exact Or.inr rfl) (ve_ix (ve_lst (va_cons ve_int (va_cons ve_int (va_cons ve_int va_nil)))) (ve_bin op_mod ops_mod (ve_bin op_fdiv ops_div (ve_var (i := 1)) ve_int) ve_int)))
 (vss_cons (vs_set (i := 4) S__law_bed.nd rfl (by first | exact Or.inl rfl | exact Or.inr rfl) (ve_call tk (ok__law_numbers T) (hr.mono (by decide)) (by rfl) T.M16 T.F16.kp T.B16 (vac_val (ve_var (i := 0)) (vac_val ve_int (vac_val ve_int vac_nil)))))
 (vss_one (vs_ret (ve_lc (own := [("y", 5)]) rfl S__law_bed.nd (vi_rng1 (by rfl) T.z_range (va_cons (ve_bin op_addA ops_add ve_int (ve_bin op_mod ops_mod (ve_bin op_fdiv ops_div (ve_var (i := 1)) ve_int) ve_int)) va_nil)) (blkOk_by (N := N__law_bed) (own := [("y", 5)]) (by first | decide +kernel | with_unfolding_all rfl)) (fun _ _ _ _ _ => (vg_name (i := 5) S__law_bed.nd rfl (by first | exact Or.inl rfl | exact Or.inr rfl))) (fun _ _ _ _ _ => vts_nil) (fun _ _ _ _ _ => (ve_lc (own := [("x", 6)]) rfl S__law_bed.nd (vi_rng1 (by rfl) T.z_range (va_cons (ve_var (i := 2)) va_nil)) (blkOk_by (N := N__law_bed) (own := [("x", 6)]) (by first | decide +kernel | with_unfolding_all rfl)) (fun _ _ _ _ _ => (vg_name (i := 6) S__law_bed.nd rfl (by first | exact Or.inl rfl | exact Or.inr rfl))) (fun _ _ _ _ _ => vts_nil) (fun _ _ _ _ _ => (ve_bin op_mod ops_mod (ve_ix (ve_var (i := 4)) (ve_bin op_addA ops_add (ve_bin op_mul ops_mul (ve_var (i := 5)) (ve_var (i := 2))) (ve_var (i := 6)))) (ve_var (i := 3)))))))))))))
theorem S__law_shelf : FnScope N__law_shelf ["script"] (defScope s__law_shelf) := ⟨rfl, rfl, rfl, by decide +kernel, rfl, by decide +kernel, by decide +kernel⟩
theorem ok__law_shelf (T : Tx K mg A D G) : FnOk P w K mg base (L2.CX P w) 3 (A 20) (D 20) ["script"] (spM K mg 1 F__law_shelf) :=
 fun_okD (k := 2) (kp := (fun j => [0].contains j)) (body := B__law_shelf) (n := 1) (NN := 3) (Fm := F__law_shelf) (by unfold F__law_shelf; rfl) (by rfl) (by rfl) T.F20 S__law_shelf (by decide) fun cdv A0 outer s H E hr tk po => by
 unfold B__law_shelf C__law_shelf_0
 exact (vss_cons (vs_set (i := 1) S__law_shelf.nd rfl (by first | exact Or.inl rfl | exact Or.inr rfl) (ve_call tk (ok__law_numbers T) (hr.mono (by decide)) (by rfl) T.M16 T.F16.kp T.B16 (vac_val (ve_var (i := 0)) (vac_val ve_int (vac_val ve_int vac_nil)))))
 (vss_one (vs_ret (ve_lc (own := [("k", 2)]) rfl S__law_shelf.nd (vi_rng1 (by rfl) T.z_range (va_cons (ve_bin op_addA ops_add ve_int (ve_bin op_mod ops_mod (ve_ix (ve_var (i := 1)) ve_int) ve_int)) va_nil)) (blkOk_by (N := N__law_shelf) (own := [("k", 2)]) (by first | decide +kernel | with_unfolding_all rfl)) (fun _ _ _ _ _ => (vg_name (i := 2) S__law_shelf.nd rfl (by first | exact Or.inl rfl | exact Or.inr rfl))) (fun _ _ _ _ _ => vts_nil) (fun _ _ _ _ _ => (ve_call takes0 (ok__law_cutter T) (hr.mono (by decide)) (by rfl) T.M19 T.F19.kp T.B19 (vac_val (ve_sl (ve_var (i := 1)) (vo_some (ve_bin op_mul ops_mul ve_int (ve_var (i := 2)))) (vo_some (ve_bin op_addA ops_add (ve_bin op_mul ops_mul ve_int (ve_var (i := 2))) ve_int))) vac_nil)))))))
theorem S__law_moves : FnScope N__law_moves ["script", "bed", "shelf"] (defScope s__law_moves) := ⟨rfl, rfl, rfl, by decide +kernel, rfl, by decide +kernel, by decide +kernel⟩
theorem ok__law_moves (T : Tx K mg A D G) : FnOk P w K mg base (L2.CX P w) 3 (A 24) (D 24) ["script", "bed", "shelf"] (spM K mg 3 F__law_moves) :=
 fun_okD (k := 2) (kp := (fun j => [0, 1, 2].contains j)) (body := B__law_moves) (n := 3) (NN := 13) (Fm := F__law_moves) (by unfold F__law_moves; rfl) (by rfl) (by rfl) T.F24 S__law_moves (by decide) fun cdv A0 outer s H E hr tk po => by
 unfold B__law_moves C__law_moves_0 L__law_moves_1 D__law_moves_2
 exact (vss_cons (vs_setO (i := 3) S__law_moves.nd rfl (by first | exact Or.inl rfl | exact Or.inr rfl) (vo_lst va_nil))
 (vss_cons (by first
 | exact vs_setLc (i := 4) (own := [("row", 12)]) rfl S__law_moves.nd (vi_any (ve_var (i := 1))) (blkOk_by (N := N__law_moves) (own := [("row", 12)]) (by first | decide +kernel | with_unfolding_all rfl)) (fun _ _ _ _ _ => (vg_name (i := 12) S__law_moves.nd rfl (by first | exact Or.inl rfl | exact Or.inr rfl))) (fun _ _ _ _ _ => vts_nil) (fun _ _ _ _ _ => (ve_ct call_list_of cals_list (by rfl) T.z_list (by decide +kernel) (va_cons (ve_var (i := 12)) va_nil))) rfl rfl rfl (sw_true rfl rfl rfl (by decide +kernel))
 | exact vs_set (i := 4) S__law_moves.nd rfl (by first | exact Or.inl rfl | exact Or.inr rfl) (ve_lc (own := [("row", 12)]) rfl S__law_moves.nd (vi_any (ve_var (i := 1))) (blkOk_by (N := N__law_moves) (own := [("row", 12)]) (by first | decide +kernel | with_unfolding_all rfl)) (fun _ _ _ _ _ => (vg_name (i := 12) S__law_moves.nd rfl (by first | exact Or.inl rfl | exact Or.inr rfl))) (fun _ _ _ _ _ => vts_nil) (fun _ _ _ _ _ => (ve_ct call_list_of cals_list (by rfl) T.z_list (by decide +kernel) (va_cons (ve_var (i := 12)) va_nil)))))
 (vss_cons (vs_set (i := 5) S__law_moves.nd rfl (by first | exact Or.inl rfl | exact Or.inr rfl) (ve_lst (va_cons ve_none (va_cons (ve_tup (va_cons ve_int (va_cons ve_int (va_cons ve_int va_nil)))) va_nil))))
 (vss_cons (vs_for po rfl (vi_rng1 (by rfl) T.z_range (va_cons (ve_cb (call_minA rfl) cals_min (by rfl) T.z_min (by decide +kernel) (va_cons ve_int (va_cons (ve_cb call_len cals_len (by rfl) T.z_len (by decide +kernel) (va_cons (ve_var (i := 0)) va_nil)) va_nil))) va_nil)) (vg_name (i := 6) S__law_moves.nd rfl (by first | exact Or.inl rfl | exact Or.inr rfl))
 (vss_cons (vs_set (i := 7) S__law_moves.nd rfl (by first | exact Or.inl rfl | exact Or.inr rfl) (ve_call tk (ok__law_number T) (hr.mono (by decide)) (by rfl) T.M17 T.F17.kp T.B17 (vac_val (ve_var (i := 0)) (vac_val (ve_var (i := 6)) vac_nil))))
 (vss_cons (vs_set (i := 8) S__law_moves.nd rfl (by first | exact Or.inl rfl | exact Or.inr rfl) (ve_tup (va_cons ve_str (va_cons (ve_bin op_mod ops_mod (ve_bin op_fdiv ops_div (ve_var (i := 7)) ve_int) (ve_cb call_len cals_len (by rfl) T.z_len (by decide +kernel) (va_cons (ve_var (i := 2)) va_nil))) va_nil))))
 (vss_cons (vs_if (VW.vt (vw_and (vt_cmp op_gt ops_gt (ve_bin op_mod ops_mod (ve_var (i := 7)) ve_int) ve_int (nomark _)) (vw_and1 (vt_cmp op_gt ops_gt (ve_var (i := 6)) ve_int (nomark _)))))
 (vss_cons (vs_set (i := 9) S__law_moves.nd rfl (by first | exact Or.inl rfl | exact Or.inr rfl) (ve_ix (ve_ix (ve_var (i := 4)) (ve_bin op_mod ops_mod (ve_bin op_fdiv ops_div (ve_var (i := 7)) ve_int) (ve_cb call_len cals_len (by rfl) T.z_len (by decide +kernel) (va_cons (ve_var (i := 4)) va_nil)))) (ve_bin op_mod ops_mod (ve_bin op_fdiv ops_div (ve_var (i := 7)) ve_int) (ve_cb call_len cals_len (by rfl) T.z_len (by decide +kernel) (va_cons (ve_ix (ve_var (i := 4)) ve_int) va_nil)))))
 (vss_cons (vs_set (i := 8) S__law_moves.nd rfl (by first | exact Or.inl rfl | exact Or.inr rfl) (ve_tup (va_cons ve_str (va_cons ve_str (va_cons (ve_bin op_mod ops_mod (ve_bin op_fdiv ops_div (ve_var (i := 7)) ve_int) (ve_cb call_len cals_len (by rfl) T.z_len (by decide +kernel) (va_cons (ve_ix (ve_var (i := 4)) ve_int) va_nil))) va_nil)))))
 (vss_cons (vs_if (vt_cmp (op_eqD (hu64 hr)) ops_eq (ve_bin op_mod ops_mod (ve_var (i := 7)) ve_int) ve_int (nomark _))
 (vss_one (vs_set (i := 8) S__law_moves.nd rfl (by first | exact Or.inl rfl | exact Or.inr rfl) (ve_tup (va_cons ve_str (va_cons ve_str (va_cons (ve_bin op_sub ops_sub (ve_var (i := 9)) (ve_bin op_mod ops_mod (ve_bin op_fdiv ops_div (ve_var (i := 7)) ve_int) ve_int)) va_nil))))))
 vss_nil)
 (vss_cons (vs_if (vt_cmp (op_eqD (hu64 hr)) ops_eq (ve_bin op_mod ops_mod (ve_var (i := 7)) ve_int) ve_int (nomark _))
 (vss_one (vs_set (i := 8) S__law_moves.nd rfl (by first | exact Or.inl rfl | exact Or.inr rfl) (ve_tup (va_cons ve_str (va_cons ve_str (va_cons (ve_bin op_mod ops_mod (ve_bin op_fdiv ops_div (ve_var (i := 7)) ve_int) (ve_cb call_len cals_len (by rfl) T.z_len (by decide +kernel) (va_cons (ve_var (i := 4)) va_nil))) va_nil))))))
 vss_nil)
 (vss_one (vs_if (vt_cmp (op_eqD (hu64 hr)) ops_eq (ve_bin op_mod ops_mod (ve_var (i := 7)) ve_int) ve_int (nomark _))
 (vss_one (vs_set (i := 8) S__law_moves.nd rfl (by first | exact Or.inl rfl | exact Or.inr rfl) (ve_tup (va_cons ve_str (va_cons ve_str (va_cons (ve_ix (ve_lst (va_cons ve_int (va_cons (ve_var (i := 9)) va_nil))) (ve_bin op_mod ops_mod (ve_bin op_fdiv ops_div (ve_var (i := 7)) ve_int) ve_int)) va_nil))))))
 vss_nil))))))
 vss_nil)
 (vss_cons (by first
 | exact vs_setLcO (i := 10) (own := [("row", 12)]) rfl S__law_moves.nd (vi_any (ve_var (i := 4))) (blkOk_by (N := N__law_moves) (own := [("row", 12)]) (by first | decide +kernel | with_unfolding_all rfl)) (fun _ _ _ _ _ => (vg_name (i := 12) S__law_moves.nd rfl (by first | exact Or.inl rfl | exact Or.inr rfl))) (fun _ _ _ _ _ => vts_nil) (fun _ _ _ _ _ => (vo_list (by rfl) T.z_list (va_cons (ve_var (i := 12)) va_nil))) rfl rfl rfl (sw_true rfl rfl rfl (by decide +kernel))
 | exact vs_setO (i := 10) S__law_moves.nd rfl (by first | exact Or.inl rfl | exact Or.inr rfl) (vo_lc (own := [("row", 12)]) rfl S__law_moves.nd (vi_any (ve_var (i := 4))) (blkOk_by (N := N__law_moves) (own := [("row", 12)]) (by first | decide +kernel | with_unfolding_all rfl)) (fun _ _ _ _ _ => (vg_name (i := 12) S__law_moves.nd rfl (by first | exact Or.inl rfl | exact Or.inr rfl))) (fun _ _ _ _ _ => vts_nil) (fun _ _ _ _ _ => (vo_list (by rfl) T.z_list (va_cons (ve_var (i := 12)) va_nil)))))
 (vss_cons (vs_setO (i := 11) S__law_moves.nd rfl (by first | exact Or.inl rfl | exact Or.inr rfl) (vo_list (by rfl) T.z_list (va_cons (ve_var (i := 5)) va_nil)))
 (vss_one (vs_if (VW.vt (vw_and (vt_cmp op_lt ops_lt (ve_cb call_len cals_len (by rfl) T.z_len (by decide +kernel) (va_cons (ve_var (i := 3)) va_nil)) ve_int (nomark _)) (vw_and1 (vt_tru (ve_isi (T := .int) (by decide) (by decide +kernel) (by rfl) T.z_isinstance (by rfl) T.z_int (ve_call tk (ok__law_done T) (hr.mono (by decide)) (by rfl) T.M23 T.F23.kp T.B23 (vac_mv (i := 10) (vac_val (ve_var (i := 2)) (vac_mv (i := 11) (vac_val (ve_var (i := 8)) vac_nil))))))))))
 (vss_cons (vs_set (i := 4) S__law_moves.nd rfl (by first | exact Or.inl rfl | exact Or.inr rfl) (ve_frz (i := 10)))
 (vss_cons (vs_set (i := 5) S__law_moves.nd rfl (by first | exact Or.inl rfl | exact Or.inr rfl) (ve_frz (i := 11)))
 (vss_one (vs_app (i := 3) (ve_var (i := 8))))))
 vss_nil))))))))
 (vss_one (vs_ret (ve_frz (i := 3))))))))
theorem S__law_walked : FnScope N__law_walked ["bed", "shelf", "moves"] (defScope s__law_walked) := ⟨rfl, rfl, rfl, by decide +kernel, rfl, by decide +kernel, by decide +kernel⟩
theorem ok__law_walked (T : Tx K mg A D G) : FnOk P w K mg base (L2.CX P w) 3 (A 25) (D 25) ["bed", "shelf", "moves"] (spM K mg 3 F__law_walked) :=
 fun_okD (k := 2) (kp := (fun j => [0, 1, 2].contains j)) (body := B__law_walked) (n := 3) (NN := 7) (Fm := F__law_walked) (by unfold F__law_walked; rfl) (by rfl) (by rfl) T.F25 S__law_walked (by decide) fun cdv A0 outer s H E hr tk po => by
 unfold B__law_walked D__law_walked_0 L__law_walked_1
 exact (vss_cons (by first
 | exact vs_setLcO (i := 3) (own := [("row", 6)]) rfl S__law_walked.nd (vi_any (ve_var (i := 0))) (blkOk_by (N := N__law_walked) (own := [("row", 6)]) (by first | decide +kernel | with_unfolding_all rfl)) (fun _ _ _ _ _ => (vg_name (i := 6) S__law_walked.nd rfl (by first | exact Or.inl rfl | exact Or.inr rfl))) (fun _ _ _ _ _ => vts_nil) (fun _ _ _ _ _ => (vo_list (by rfl) T.z_list (va_cons (ve_var (i := 6)) va_nil))) rfl rfl rfl (sw_true rfl rfl rfl (by decide +kernel))
 | exact vs_setO (i := 3) S__law_walked.nd rfl (by first | exact Or.inl rfl | exact Or.inr rfl) (vo_lc (own := [("row", 6)]) rfl S__law_walked.nd (vi_any (ve_var (i := 0))) (blkOk_by (N := N__law_walked) (own := [("row", 6)]) (by first | decide +kernel | with_unfolding_all rfl)) (fun _ _ _ _ _ => (vg_name (i := 6) S__law_walked.nd rfl (by first | exact Or.inl rfl | exact Or.inr rfl))) (fun _ _ _ _ _ => vts_nil) (fun _ _ _ _ _ => (vo_list (by rfl) T.z_list (va_cons (ve_var (i := 6)) va_nil)))))
 (vss_cons (vs_setO (i := 4) S__law_walked.nd rfl (by first | exact Or.inl rfl | exact Or.inr rfl) (vo_lst (va_cons ve_none (va_cons (ve_tup (va_cons ve_int (va_cons ve_int (va_cons ve_int va_nil)))) va_nil))))
 (vss_cons (vs_for po rfl (vi_any (ve_var (i := 2))) (vg_name (i := 5) S__law_walked.nd rfl (by first | exact Or.inl rfl | exact Or.inr rfl))
 (vss_one (vs_if (vt_not (vt_tru (ve_isi (T := .int) (by decide) (by decide +kernel) (by rfl) T.z_isinstance (by rfl) T.z_int (ve_call tk (ok__law_done T) (hr.mono (by decide)) (by rfl) T.M23 T.F23.kp T.B23 (vac_mv (i := 3) (vac_val (ve_var (i := 1)) (vac_mv (i := 4) (vac_val (ve_var (i := 5)) vac_nil))))))))
 (vss_one (vs_ret ve_none))
 vss_nil)))
 (vss_one (vs_ret (ve_frz (i := 3)))))))
theorem S_carved : FnScope N_carved ["bed", "shelf", "moves"] (defScope s_carved) := ⟨rfl, rfl, rfl, by decide +kernel, rfl, by decide +kernel, by decide +kernel⟩
theorem ok_carved (T : Tx K mg A D G) : FnOk P w K mg base (L2.CX P w) 4 (A 10) (D 10) ["bed", "shelf", "moves"] (spM K mg 3 F_carved) :=
 fun_okD (k := 3) (kp := (fun j => [0, 1, 2].contains j)) (body := B_carved) (n := 3) (NN := 10) (Fm := F_carved) (by unfold F_carved; rfl) (by rfl) (by rfl) T.F10 S_carved (by decide) fun cdv A0 outer s H E hr tk po => by
 unfold B_carved D_carved_0 L_carved_1
 exact (vss_cons (by first
 | exact vs_setLcO (i := 3) (own := [("row", 9)]) rfl S_carved.nd (vi_any (ve_var (i := 0))) (blkOk_by (N := N_carved) (own := [("row", 9)]) (by first | decide +kernel | with_unfolding_all rfl)) (fun _ _ _ _ _ => (vg_name (i := 9) S_carved.nd rfl (by first | exact Or.inl rfl | exact Or.inr rfl))) (fun _ _ _ _ _ => vts_nil) (fun _ _ _ _ _ => (vo_list (by rfl) T.z_list (va_cons (ve_var (i := 9)) va_nil))) rfl rfl rfl (sw_true rfl rfl rfl (by decide +kernel))
 | exact vs_setO (i := 3) S_carved.nd rfl (by first | exact Or.inl rfl | exact Or.inr rfl) (vo_lc (own := [("row", 9)]) rfl S_carved.nd (vi_any (ve_var (i := 0))) (blkOk_by (N := N_carved) (own := [("row", 9)]) (by first | decide +kernel | with_unfolding_all rfl)) (fun _ _ _ _ _ => (vg_name (i := 9) S_carved.nd rfl (by first | exact Or.inl rfl | exact Or.inr rfl))) (fun _ _ _ _ _ => vts_nil) (fun _ _ _ _ _ => (vo_list (by rfl) T.z_list (va_cons (ve_var (i := 9)) va_nil)))))
 (vss_cons (vs_setO (i := 4) S_carved.nd rfl (by first | exact Or.inl rfl | exact Or.inr rfl) (vo_make tk T.nm_Carver T.cl_Carver T.mk_Carver (ok_Carver___init__ T) (hr.mono (by decide)) (by rfl) T.gC_Carver T.B2 (vac_val (ve_var (i := 1)) (vac_val (ve_cb call_len cals_len (by rfl) T.z_len (by decide +kernel) (va_cons (ve_ix (ve_var (i := 0)) ve_int) va_nil)) (vac_val (ve_cb call_len cals_len (by rfl) T.z_len (by decide +kernel) (va_cons (ve_var (i := 0)) va_nil)) vac_nil)))))
 (vss_cons (vs_setO (i := 5) S_carved.nd rfl (by first | exact Or.inl rfl | exact Or.inr rfl) (vo_lst va_nil))
 (vss_cons (vs_for po rfl (vi_any (ve_var (i := 2))) (vg_name (i := 6) S_carved.nd rfl (by first | exact Or.inl rfl | exact Or.inr rfl))
 (vss_cons (vs_asg (ve_call tk (ok_done_move T) (hr.mono (by decide)) (by rfl) T.M9 T.F9.kp T.B9 (vac_mv (i := 4) (vac_mv (i := 3) (vac_val (ve_var (i := 6)) vac_nil)))) (vg_any rfl (vgs_cons (vg_name (i := 7) S_carved.nd rfl (by first | exact Or.inl rfl | exact Or.inr rfl)) (vgs_cons (vg_name (i := 8) S_carved.nd rfl (by first | exact Or.inl rfl | exact Or.inr rfl)) vgs_nil))))
 (vss_cons (vs_if (vt_cmp op_notN ops_notN (ve_var (i := 8)) ve_none (nomark _))
 (vss_one (vs_ret (ve_tup (va_cons (ve_frz (i := 3)) (va_cons (ve_frz (i := 5)) (va_cons (ve_var (i := 8)) va_nil))))))
 vss_nil)
 (vss_one (vs_app (i := 5) (ve_var (i := 7)))))))
 (vss_one (vs_ret (ve_tup (va_cons (ve_frz (i := 3)) (va_cons (ve_frz (i := 5)) (va_cons ve_none va_nil))))))))))
theorem S_leaves : FnScope N_leaves ["bed", "shelf", "moves", "wanted"] (defScope s_leaves) := ⟨rfl, rfl, rfl, by decide +kernel, rfl, by decide +kernel, by decide +kernel⟩
theorem ok_leaves (T : Tx K mg A D G) : FnOk P w K mg base (L2.CX P w) 5 (A 11) (D 11) ["bed", "shelf", "moves", "wanted"] (spM K mg 4 F_leaves) :=
 fun_okD (k := 4) (kp := (fun j => [0, 1, 2, 3].contains j)) (body := B_leaves) (n := 4) (NN := 7) (Fm := F_leaves) (by unfold F_leaves; rfl) (by rfl) (by rfl) T.F11 S_leaves (by decide) fun cdv A0 outer s H E hr tk po => by
 unfold B_leaves
 exact (vss_cons (vs_asg (ve_call tk (ok_carved T) (hr.mono (by decide)) (by rfl) T.M10 T.F10.kp T.B10 (vac_val (ve_var (i := 0)) (vac_val (ve_var (i := 1)) (vac_val (ve_var (i := 2)) vac_nil)))) (vg_any rfl (vgs_cons (vg_name (i := 4) S_leaves.nd rfl (by first | exact Or.inl rfl | exact Or.inr rfl)) (vgs_cons (vg_name (i := 5) S_leaves.nd rfl (by first | exact Or.inl rfl | exact Or.inr rfl)) (vgs_cons (vg_name (i := 6) S_leaves.nd rfl (by first | exact Or.inl rfl | exact Or.inr rfl)) vgs_nil)))))
 (vss_one (vs_ret (ve_and (ve_cmp op_isN ops_isN (ve_var (i := 6)) ve_none (nomark _)) (ve_one (ve_cmp (op_eqD (hu64 hr)) ops_eq (ve_var (i := 4)) (ve_var (i := 3)) (nomark _)))))))
theorem S_told_apart : FnScope N_told_apart ["bed", "shelf", "moves", "others"] (defScope s_told_apart) := ⟨rfl, rfl, rfl, by decide +kernel, rfl, by decide +kernel, by decide +kernel⟩
theorem ok_told_apart (T : Tx K mg A D G) : FnOk P w K mg base (L2.CX P w) 5 (A 13) (D 13) ["bed", "shelf", "moves", "others"] (spM K mg 4 F_told_apart) :=
 fun_okD (k := 4) (kp := (fun j => [0, 1, 2, 3].contains j)) (body := B_told_apart) (n := 4) (NN := 8) (Fm := F_told_apart) (by unfold F_told_apart; rfl) (by rfl) (by rfl) T.F13 S_told_apart (by decide) fun cdv A0 outer s H E hr tk po => by
 unfold B_told_apart L_told_apart_0 L_told_apart_1
 exact (vss_cons (vs_set (i := 4) S_told_apart.nd rfl (by first | exact Or.inl rfl | exact Or.inr rfl) (ve_ix (ve_call tk (ok_carved T) (hr.mono (by decide)) (by rfl) T.M10 T.F10.kp T.B10 (vac_val (ve_var (i := 0)) (vac_val (ve_var (i := 1)) (vac_val (ve_var (i := 2)) vac_nil)))) ve_int))
 (vss_cons (vs_set (i := 5) S_told_apart.nd rfl (by first | exact Or.inl rfl | exact Or.inr rfl) (ve_ix (ve_call tk (ok_carved T) (hr.mono (by decide)) (by rfl) T.M10 T.F10.kp T.B10 (vac_val (ve_var (i := 0)) (vac_val (ve_var (i := 1)) (vac_val (ve_var (i := 3)) vac_nil)))) ve_int))
 (vss_cons (vs_for po rfl (vi_rng1 (by rfl) T.z_range (va_cons (ve_cb call_len cals_len (by rfl) T.z_len (by decide +kernel) (va_cons (ve_var (i := 4)) va_nil)) va_nil)) (vg_name (i := 6) S_told_apart.nd rfl (by first | exact Or.inl rfl | exact Or.inr rfl))
 (vss_one (vs_for po rfl (vi_rng1 (by rfl) T.z_range (va_cons (ve_cb call_len cals_len (by rfl) T.z_len (by decide +kernel) (va_cons (ve_ix (ve_var (i := 4)) (ve_var (i := 6))) va_nil)) va_nil)) (vg_name (i := 7) S_told_apart.nd rfl (by first | exact Or.inl rfl | exact Or.inr rfl))
 (vss_one (vs_if (vt_cmp (op_neD (hu64 hr)) ops_ne (ve_ix (ve_ix (ve_var (i := 4)) (ve_var (i := 6))) (ve_var (i := 7))) (ve_ix (ve_ix (ve_var (i := 5)) (ve_var (i := 6))) (ve_var (i := 7))) (nomark _))
 (vss_one (vs_ret (ve_tup (va_cons (ve_var (i := 7)) (va_cons (ve_var (i := 6)) (va_cons (ve_ix (ve_ix (ve_var (i := 4)) (ve_var (i := 6))) (ve_var (i := 7))) (va_cons (ve_ix (ve_ix (ve_var (i := 5)) (ve_var (i := 6))) (ve_var (i := 7))) va_nil)))))))
 vss_nil)))))
 (vss_one (vs_ret ve_none)))))
theorem S_fewer : FnScope N_fewer ["bed", "shelf", "moves"] (defScope s_fewer) := ⟨rfl, rfl, rfl, by decide +kernel, rfl, by decide +kernel, by decide +kernel⟩
theorem ok_fewer (T : Tx K mg A D G) : FnOk P w K mg base (L2.CX P w) 6 (A 12) (D 12) ["bed", "shelf", "moves"] (spM K mg 3 F_fewer) :=
 fun_okD (k := 5) (kp := (fun j => [0, 1, 2].contains j)) (body := B_fewer) (n := 3) (NN := 8) (Fm := F_fewer) (by unfold F_fewer; rfl) (by rfl) (by rfl) T.F12 S_fewer (by decide) fun cdv A0 outer s H E hr tk po => by
 unfold B_fewer L_fewer_0 L_fewer_1
 exact (vss_cons (vs_set (i := 3) S_fewer.nd rfl (by first | exact Or.inl rfl | exact Or.inr rfl) (ve_ix (ve_call tk (ok_carved T) (hr.mono (by decide)) (by rfl) T.M10 T.F10.kp T.B10 (vac_val (ve_var (i := 0)) (vac_val (ve_var (i := 1)) (vac_val (ve_var (i := 2)) vac_nil)))) ve_int))
 (vss_cons (vs_set (i := 4) S_fewer.nd rfl (by first | exact Or.inl rfl | exact Or.inr rfl) (ve_ct call_list_of cals_list (by rfl) T.z_list (by decide +kernel) (va_cons (ve_var (i := 2)) va_nil)))
 (vss_cons (vs_set (i := 5) S_fewer.nd rfl (by first | exact Or.inl rfl | exact Or.inr rfl) ve_bool)
 (vss_cons (vs_while po (vt_tru (ve_var (i := 5)))
 (vss_cons (vs_set (i := 5) S_fewer.nd rfl (by first | exact Or.inl rfl | exact Or.inr rfl) ve_bool)
 (vss_one (vs_for po rfl (vi_rng3 (by rfl) T.z_range (va_cons (ve_bin op_sub ops_sub (ve_cb call_len cals_len (by rfl) T.z_len (by decide +kernel) (va_cons (ve_var (i := 4)) va_nil)) ve_int) (va_cons (ve_neg ve_int) (va_cons (ve_neg ve_int) va_nil)))) (vg_name (i := 6) S_fewer.nd rfl (by first | exact Or.inl rfl | exact Or.inr rfl))
 (vss_cons (vs_set (i := 7) S_fewer.nd rfl (by first | exact Or.inl rfl | exact Or.inr rfl) (ve_bin op_addA ops_add (ve_sl (ve_var (i := 4)) vo_none (vo_some (ve_var (i := 6)))) (ve_sl (ve_var (i := 4)) (vo_some (ve_bin op_addA ops_add (ve_var (i := 6)) ve_int)) vo_none)))
 (vss_one (vs_if (vt_tru (ve_call tk (ok_leaves T) (hr.mono (by decide)) (by rfl) T.M11 T.F11.kp T.B11 (vac_val (ve_var (i := 0)) (vac_val (ve_var (i := 1)) (vac_val (ve_var (i := 7)) (vac_val (ve_var (i := 3)) vac_nil))))))
 (vss_cons (vs_set (i := 4) S_fewer.nd rfl (by first | exact Or.inl rfl | exact Or.inr rfl) (ve_var (i := 7)))
 (vss_one (vs_set (i := 5) S_fewer.nd rfl (by first | exact Or.inl rfl | exact Or.inr rfl) ve_bool)))
 vss_nil)))))))
 (vss_one (vs_ret (ve_var (i := 4))))))))
theorem S_law : FnScope N_law ["script"] (defScope s_law) := ⟨rfl, rfl, rfl, by decide +kernel, rfl, by decide +kernel, by decide +kernel⟩
theorem ok_law (T : Tx K mg A D G) : FnOk P w K mg base (L2.CX P w) 7 (A 28) (D 28) ["script"] (spM K mg 1 F_law) :=
 fun_okD (k := 6) (kp := (fun j => [0].contains j)) (body := B_law) (n := 1) (NN := 14) (Fm := F_law) (by unfold F_law; rfl) (by rfl) (by rfl) T.F28 S_law (by decide) fun cdv A0 outer s H E hr tk po => by
 unfold B_law C_law_0 C_law_1 L_law_2
 exact (vss_cons (vs_set (i := 1) S_law.nd rfl (by first | exact Or.inl rfl | exact Or.inr rfl) (ve_call tk (ok__law_bed T) (hr.mono (by decide)) (by rfl) T.M18 T.F18.kp T.B18 (vac_val (ve_var (i := 0)) vac_nil)))
 (vss_cons (vs_set (i := 2) S_law.nd rfl (by first | exact Or.inl rfl | exact Or.inr rfl) (ve_call tk (ok__law_shelf T) (hr.mono (by decide)) (by rfl) T.M20 T.F20.kp T.B20 (vac_val (ve_var (i := 0)) vac_nil)))
 (vss_cons (vs_set (i := 3) S_law.nd rfl (by first | exact Or.inl rfl | exact Or.inr rfl) (ve_call tk (ok__law_moves T) (hr.mono (by decide)) (by rfl) T.M24 T.F24.kp T.B24 (vac_val (ve_var (i := 0)) (vac_val (ve_var (i := 1)) (vac_val (ve_var (i := 2)) vac_nil)))))
 (vss_cons (vs_set (i := 4) S_law.nd rfl (by first | exact Or.inl rfl | exact Or.inr rfl) (ve_call tk (ok__law_walked T) (hr.mono (by decide)) (by rfl) T.M25 T.F25.kp T.B25 (vac_val (ve_var (i := 1)) (vac_val (ve_var (i := 2)) (vac_val (ve_var (i := 3)) vac_nil)))))
 (vss_cons (vs_set (i := 5) S_law.nd rfl (by first | exact Or.inl rfl | exact Or.inr rfl) (ve_lst (va_cons (ve_lc (own := [("row", 11)]) rfl S_law.nd (vi_any (ve_var (i := 1))) (blkOk_by (N := N_law) (own := [("row", 11)]) (by first | decide +kernel | with_unfolding_all rfl)) (fun _ _ _ _ _ => (vg_name (i := 11) S_law.nd rfl (by first | exact Or.inl rfl | exact Or.inr rfl))) (fun _ _ _ _ _ => vts_nil) (fun _ _ _ _ _ => (ve_ct call_list_of cals_list (by rfl) T.z_list (by decide +kernel) (va_cons (ve_var (i := 11)) va_nil)))) (va_cons (ve_lc (own := [("foot", 12), ("bite", 13)]) rfl S_law.nd (vi_any (ve_var (i := 2))) (blkOk_by (N := N_law) (own := [("foot", 12), ("bite", 13)]) (by first | decide +kernel | with_unfolding_all rfl)) (fun _ _ _ _ _ => (vg_any rfl (vgs_cons (vg_name (i := 12) S_law.nd rfl (by first | exact Or.inl rfl | exact Or.inr rfl)) (vgs_cons (vg_name (i := 13) S_law.nd rfl (by first | exact Or.inl rfl | exact Or.inr rfl)) vgs_nil)))) (fun _ _ _ _ _ => vts_nil) (fun _ _ _ _ _ => (ve_tup (va_cons (ve_ct call_list_of cals_list (by rfl) T.z_list (by decide +kernel) (va_cons (ve_var (i := 12)) va_nil)) (va_cons (ve_var (i := 13)) va_nil))))) (va_cons (ve_ct call_list_of cals_list (by rfl) T.z_list (by decide +kernel) (va_cons (ve_var (i := 3)) va_nil)) va_nil)))))
 (vss_cons (vs_set (i := 6) S_law.nd rfl (by first | exact Or.inl rfl | exact Or.inr rfl) (ve_call tk (ok_fewer T) (hr.mono (by decide)) (by rfl) T.M12 T.F12.kp T.B12 (vac_val (ve_ix (ve_var (i := 5)) ve_int) (vac_val (ve_ix (ve_var (i := 5)) ve_int) (vac_val (ve_ix (ve_var (i := 5)) ve_int) vac_nil)))))
 (vss_cons (vs_if (VW.vt (vw_or (vt_not (vt_tru (ve_isi (T := .list) (by decide) (by decide +kernel) (by rfl) T.z_isinstance (by rfl) T.z_list (ve_var (i := 6))))) (vw_or (vt_not (vt_tru (ve_call tk (ok__law_within T) (hr.mono (by decide)) (by rfl) T.M26 T.F26.kp T.B26 (vac_val (ve_var (i := 6)) (vac_val (ve_var (i := 3)) vac_nil))))) (vw_or1 (vt_cmp (op_neD (hu64 hr)) ops_ne (ve_call tk (ok__law_walked T) (hr.mono (by decide)) (by rfl) T.M25 T.F25.kp T.B25 (vac_val (ve_var (i := 1)) (vac_val (ve_var (i := 2)) (vac_val (ve_var (i := 6)) vac_nil)))) (ve_var (i := 4)) (nomark _))))))
 (vss_one (vs_ret ve_bool))
 vss_nil)
 (vss_cons (vs_for po rfl (vi_rng1 (by rfl) T.z_range (va_cons (ve_cb call_len cals_len (by rfl) T.z_len (by decide +kernel) (va_cons (ve_var (i := 6)) va_nil)) va_nil)) (vg_name (i := 7) S_law.nd rfl (by first | exact Or.inl rfl | exact Or.inr rfl))
 (vss_one (vs_if (vt_cmp (op_eqD (hu64 hr)) ops_eq (ve_call tk (ok__law_walked T) (hr.mono (by decide)) (by rfl) T.M25 T.F25.kp T.B25 (vac_val (ve_var (i := 1)) (vac_val (ve_var (i := 2)) (vac_val (ve_bin op_addA ops_add (ve_sl (ve_var (i := 6)) vo_none (vo_some (ve_var (i := 7)))) (ve_sl (ve_var (i := 6)) (vo_some (ve_bin op_addA ops_add (ve_var (i := 7)) ve_int)) vo_none)) vac_nil)))) (ve_var (i := 4)) (nomark _))
 (vss_one (vs_ret ve_bool))
 vss_nil)))
 (vss_cons (vs_if (VW.vt (vw_or (vt_cmp op_notN ops_notN (ve_call tk (ok_told_apart T) (hr.mono (by decide)) (by rfl) T.M13 T.F13.kp T.B13 (vac_val (ve_ix (ve_var (i := 5)) ve_int) (vac_val (ve_ix (ve_var (i := 5)) ve_int) (vac_val (ve_ix (ve_var (i := 5)) ve_int) (vac_val (ve_var (i := 6)) vac_nil))))) ve_none (nomark _)) (vw_or1 (vt_cmp (op_neD (hu64 hr)) ops_ne (ve_var (i := 5)) (ve_lst (va_cons (ve_var (i := 1)) (va_cons (ve_var (i := 2)) (va_cons (ve_var (i := 3)) va_nil)))) (nomark _)))))
 (vss_one (vs_ret ve_bool))
 vss_nil)
 (vss_cons (vs_if (vt_cmp (op_eqD (hu64 hr)) ops_eq (ve_var (i := 3)) (ve_lst va_nil) (nomark _))
 (vss_one (vs_ret ve_bool))
 vss_nil)
 (vss_cons (vs_set (i := 8) S_law.nd rfl (by first | exact Or.inl rfl | exact Or.inr rfl) (ve_bin op_mod ops_mod (ve_call tk (ok__law_cell_at T) (hr.mono (by decide)) (by rfl) T.M14 T.F14.kp T.B14 (vac_val (ve_var (i := 0)) (vac_val ve_int vac_nil))) (ve_cb call_len cals_len (by rfl) T.z_len (by decide +kernel) (va_cons (ve_var (i := 3)) va_nil))))
 (vss_cons (vs_set (i := 9) S_law.nd rfl (by first | exact Or.inl rfl | exact Or.inr rfl) (ve_bin op_addA ops_add (ve_sl (ve_var (i := 3)) vo_none (vo_some (ve_var (i := 8)))) (ve_sl (ve_var (i := 3)) (vo_some (ve_bin op_addA ops_add (ve_var (i := 8)) ve_int)) vo_none)))
 (vss_cons (vs_set (i := 10) S_law.nd rfl (by first | exact Or.inl rfl | exact Or.inr rfl) (ve_call tk (ok__law_walked T) (hr.mono (by decide)) (by rfl) T.M25 T.F25.kp T.B25 (vac_val (ve_var (i := 1)) (vac_val (ve_var (i := 2)) (vac_val (ve_var (i := 9)) vac_nil)))))
 (vss_cons (vs_if (vt_cmp op_isN ops_isN (ve_var (i := 10)) ve_none (nomark _))
 (vss_one (vs_ret ve_bool))
 vss_nil)
 (vss_one (vs_ret (ve_cmp (op_eqD (hu64 hr)) ops_eq (ve_call tk (ok_told_apart T) (hr.mono (by decide)) (by rfl) T.M13 T.F13.kp T.B13 (vac_val (ve_var (i := 1)) (vac_val (ve_var (i := 2)) (vac_val (ve_var (i := 3)) (vac_val (ve_var (i := 9)) vac_nil))))) (ve_call tk (ok__law_first T) (hr.mono (by decide)) (by rfl) T.M27 T.F27.kp T.B27 (vac_val (ve_var (i := 4)) (vac_val (ve_var (i := 10)) vac_nil))) (nomark _))))))))))))))))))
end
end GG
namespace GG
open PySem PySem.Spec PyProof.Rows L2 MV
theorem all_mk {l : PySem.W.OpenLaw} {w : World} {K : PySem.W.Frag} {h : Heap} {mg : Str → Option Value} {fa : Addr} (X : K.In h) (G : h.Ns mainGlobals mg) (hfa : mg "law" = some (.ref fa))
    {g0 : Addr} (n0 : PySem.W.nsIn K mainGlobals "Carver" = some (some (.ref g0))) (pg0 : PySem.W.plainGet K g0 Str.empty = true) (hd0 : PySem.W.hasDictIn K g0 = true) (po0 : PySem.W.plainOver K g0 = true) (sa0 : PySem.W.findIn K (.ref g0) "__setattr__" = some (some (.builtin "object.__setattr__"))) (mk0 : PySem.W.makesIn K g0 = true) (kc0 : PySem.W.keepIn K (.ref g0) = true)
    (nf0_shelf : PySem.W.findIn K (.ref g0) "shelf" = some none)
    (nf0_wide : PySem.W.findIn K (.ref g0) "wide" = some none)
    (nf0_deep : PySem.W.findIn K (.ref g0) "deep" = some none)
    (nf0_cutter : PySem.W.findIn K (.ref g0) "cutter" = some none)
    (nf0_x : PySem.W.findIn K (.ref g0) "x" = some none)
    (nf0_y : PySem.W.findIn K (.ref g0) "y" = some none)
    (nf0_z : PySem.W.findIn K (.ref g0) "z" = some none)
    {oc0 kV0 dc0 pm0 cd0 ct0 : Value} {od0 an0 : Option Addr} {sl0 : Array (Option Value)} {f0 : Addr} (a0 : PySem.W.nsIn K mainGlobals "cells_under" = some (some (.ref f0))) (l0 : K.lookup f0 = some ⟨oc0, od0, .func (PySem.W.fnOf "cells_under" "cells_under" (defArgs s_cells_under) (defBody s_cells_under) (defScope s_cells_under) .none kV0 dc0 pm0 an0 cd0 ct0), sl0⟩) (c0 : PySem.W.codeIn K cd0 "cells_under" = true) (k0 : PySem.W.keepIn K (.ref f0) = true)
    {oc1 kV1 dc1 pm1 cd1 ct1 : Value} {od1 an1 : Option Addr} {sl1 : Array (Option Value)} {f1 : Addr} (a1 : PySem.W.nsIn K mainGlobals "places_between" = some (some (.ref f1))) (l1 : K.lookup f1 = some ⟨oc1, od1, .func (PySem.W.fnOf "places_between" "places_between" (defArgs s_places_between) (defBody s_places_between) (defScope s_places_between) .none kV1 dc1 pm1 an1 cd1 ct1), sl1⟩) (c1 : PySem.W.codeIn K cd1 "places_between" = true) (k1 : PySem.W.keepIn K (.ref f1) = true)
    {oc2 kV2 dc2 pm2 cd2 ct2 : Value} {od2 an2 : Option Addr} {sl2 : Array (Option Value)} {f2 : Addr} (a2 : PySem.W.findIn K (.ref g0) "__init__" = some (some (.ref f2))) (i2 : PySem.W.isFn K (.ref f2) = true) (l2 : K.lookup f2 = some ⟨oc2, od2, .func (PySem.W.fnOf "__init__" "Carver.__init__" (defArgs s_Carver___init__) (defBody s_Carver___init__) (defScope s_Carver___init__) .none kV2 dc2 pm2 an2 cd2 ct2), sl2⟩) (c2 : PySem.W.codeIn K cd2 "Carver.__init__" = true) (k2 : PySem.W.keepIn K (.ref f2) = true)
    {oc3 kV3 dc3 pm3 cd3 ct3 : Value} {od3 an3 : Option Addr} {sl3 : Array (Option Value)} {f3 : Addr} (a3 : PySem.W.findIn K (.ref g0) "hold_fault" = some (some (.ref f3))) (i3 : PySem.W.isFn K (.ref f3) = true) (l3 : K.lookup f3 = some ⟨oc3, od3, .func (PySem.W.fnOf "hold_fault" "Carver.hold_fault" (defArgs s_Carver_hold_fault) (defBody s_Carver_hold_fault) (defScope s_Carver_hold_fault) .none kV3 dc3 pm3 an3 cd3 ct3), sl3⟩) (c3 : PySem.W.codeIn K cd3 "Carver.hold_fault" = true) (k3 : PySem.W.keepIn K (.ref f3) = true)
    {oc4 kV4 dc4 pm4 cd4 ct4 : Value} {od4 an4 : Option Addr} {sl4 : Array (Option Value)} {f4 : Addr} (a4 : PySem.W.findIn K (.ref g0) "move_fault" = some (some (.ref f4))) (i4 : PySem.W.isFn K (.ref f4) = true) (l4 : K.lookup f4 = some ⟨oc4, od4, .func (PySem.W.fnOf "move_fault" "Carver.move_fault" (defArgs s_Carver_move_fault) (defBody s_Carver_move_fault) (defScope s_Carver_move_fault) .none kV4 dc4 pm4 an4 cd4 ct4), sl4⟩) (c4 : PySem.W.codeIn K cd4 "Carver.move_fault" = true) (k4 : PySem.W.keepIn K (.ref f4) = true)
    {oc5 kV5 dc5 pm5 cd5 ct5 : Value} {od5 an5 : Option Addr} {sl5 : Array (Option Value)} {f5 : Addr} (a5 : PySem.W.findIn K (.ref g0) "swept" = some (some (.ref f5))) (i5 : PySem.W.isFn K (.ref f5) = true) (l5 : K.lookup f5 = some ⟨oc5, od5, .func (PySem.W.fnOf "swept" "Carver.swept" (defArgs s_Carver_swept) (defBody s_Carver_swept) (defScope s_Carver_swept) .none kV5 dc5 pm5 an5 cd5 ct5), sl5⟩) (c5 : PySem.W.codeIn K cd5 "Carver.swept" = true) (k5 : PySem.W.keepIn K (.ref f5) = true)
    {oc6 kV6 dc6 pm6 cd6 ct6 : Value} {od6 an6 : Option Addr} {sl6 : Array (Option Value)} {f6 : Addr} (a6 : PySem.W.findIn K (.ref g0) "gone" = some (some (.ref f6))) (i6 : PySem.W.isFn K (.ref f6) = true) (l6 : K.lookup f6 = some ⟨oc6, od6, .func (PySem.W.fnOf "gone" "Carver.gone" (defArgs s_Carver_gone) (defBody s_Carver_gone) (defScope s_Carver_gone) .none kV6 dc6 pm6 an6 cd6 ct6), sl6⟩) (c6 : PySem.W.codeIn K cd6 "Carver.gone" = true) (k6 : PySem.W.keepIn K (.ref f6) = true)
    {oc7 kV7 dc7 pm7 cd7 ct7 : Value} {od7 an7 : Option Addr} {sl7 : Array (Option Value)} {f7 : Addr} (a7 : PySem.W.nsIn K mainGlobals "met" = some (some (.ref f7))) (l7 : K.lookup f7 = some ⟨oc7, od7, .func (PySem.W.fnOf "met" "met" (defArgs s_met) (defBody s_met) (defScope s_met) .none kV7 dc7 pm7 an7 cd7 ct7), sl7⟩) (c7 : PySem.W.codeIn K cd7 "met" = true) (k7 : PySem.W.keepIn K (.ref f7) = true)
    {oc8 kV8 dc8 pm8 cd8 ct8 : Value} {od8 an8 : Option Addr} {sl8 : Array (Option Value)} {f8 : Addr} (a8 : PySem.W.nsIn K mainGlobals "cut_down" = some (some (.ref f8))) (l8 : K.lookup f8 = some ⟨oc8, od8, .func (PySem.W.fnOf "cut_down" "cut_down" (defArgs s_cut_down) (defBody s_cut_down) (defScope s_cut_down) .none kV8 dc8 pm8 an8 cd8 ct8), sl8⟩) (c8 : PySem.W.codeIn K cd8 "cut_down" = true) (k8 : PySem.W.keepIn K (.ref f8) = true)
    {oc9 kV9 dc9 pm9 cd9 ct9 : Value} {od9 an9 : Option Addr} {sl9 : Array (Option Value)} {f9 : Addr} (a9 : PySem.W.nsIn K mainGlobals "done_move" = some (some (.ref f9))) (l9 : K.lookup f9 = some ⟨oc9, od9, .func (PySem.W.fnOf "done_move" "done_move" (defArgs s_done_move) (defBody s_done_move) (defScope s_done_move) .none kV9 dc9 pm9 an9 cd9 ct9), sl9⟩) (c9 : PySem.W.codeIn K cd9 "done_move" = true) (k9 : PySem.W.keepIn K (.ref f9) = true)
    {oc10 kV10 dc10 pm10 cd10 ct10 : Value} {od10 an10 : Option Addr} {sl10 : Array (Option Value)} {f10 : Addr} (a10 : PySem.W.nsIn K mainGlobals "carved" = some (some (.ref f10))) (l10 : K.lookup f10 = some ⟨oc10, od10, .func (PySem.W.fnOf "carved" "carved" (defArgs s_carved) (defBody s_carved) (defScope s_carved) .none kV10 dc10 pm10 an10 cd10 ct10), sl10⟩) (c10 : PySem.W.codeIn K cd10 "carved" = true) (k10 : PySem.W.keepIn K (.ref f10) = true)
    {oc11 kV11 dc11 pm11 cd11 ct11 : Value} {od11 an11 : Option Addr} {sl11 : Array (Option Value)} {f11 : Addr} (a11 : PySem.W.nsIn K mainGlobals "leaves" = some (some (.ref f11))) (l11 : K.lookup f11 = some ⟨oc11, od11, .func (PySem.W.fnOf "leaves" "leaves" (defArgs s_leaves) (defBody s_leaves) (defScope s_leaves) .none kV11 dc11 pm11 an11 cd11 ct11), sl11⟩) (c11 : PySem.W.codeIn K cd11 "leaves" = true) (k11 : PySem.W.keepIn K (.ref f11) = true)
    {oc12 kV12 dc12 pm12 cd12 ct12 : Value} {od12 an12 : Option Addr} {sl12 : Array (Option Value)} {f12 : Addr} (a12 : PySem.W.nsIn K mainGlobals "fewer" = some (some (.ref f12))) (l12 : K.lookup f12 = some ⟨oc12, od12, .func (PySem.W.fnOf "fewer" "fewer" (defArgs s_fewer) (defBody s_fewer) (defScope s_fewer) .none kV12 dc12 pm12 an12 cd12 ct12), sl12⟩) (c12 : PySem.W.codeIn K cd12 "fewer" = true) (k12 : PySem.W.keepIn K (.ref f12) = true)
    {oc13 kV13 dc13 pm13 cd13 ct13 : Value} {od13 an13 : Option Addr} {sl13 : Array (Option Value)} {f13 : Addr} (a13 : PySem.W.nsIn K mainGlobals "told_apart" = some (some (.ref f13))) (l13 : K.lookup f13 = some ⟨oc13, od13, .func (PySem.W.fnOf "told_apart" "told_apart" (defArgs s_told_apart) (defBody s_told_apart) (defScope s_told_apart) .none kV13 dc13 pm13 an13 cd13 ct13), sl13⟩) (c13 : PySem.W.codeIn K cd13 "told_apart" = true) (k13 : PySem.W.keepIn K (.ref f13) = true)
    {oc14 kV14 dc14 pm14 cd14 ct14 : Value} {od14 an14 : Option Addr} {sl14 : Array (Option Value)} {f14 : Addr} (a14 : PySem.W.nsIn K mainGlobals "_law_cell_at" = some (some (.ref f14))) (l14 : K.lookup f14 = some ⟨oc14, od14, .func (PySem.W.fnOf "_law_cell_at" "_law_cell_at" (defArgs s__law_cell_at) (defBody s__law_cell_at) (defScope s__law_cell_at) .none kV14 dc14 pm14 an14 cd14 ct14), sl14⟩) (c14 : PySem.W.codeIn K cd14 "_law_cell_at" = true) (k14 : PySem.W.keepIn K (.ref f14) = true)
    {oc15 kV15 dc15 pm15 cd15 ct15 : Value} {od15 an15 : Option Addr} {sl15 : Array (Option Value)} {f15 : Addr} (a15 : PySem.W.nsIn K mainGlobals "_law_mixed" = some (some (.ref f15))) (l15 : K.lookup f15 = some ⟨oc15, od15, .func (PySem.W.fnOf "_law_mixed" "_law_mixed" (defArgs s__law_mixed) (defBody s__law_mixed) (defScope s__law_mixed) .none kV15 dc15 pm15 an15 cd15 ct15), sl15⟩) (c15 : PySem.W.codeIn K cd15 "_law_mixed" = true) (k15 : PySem.W.keepIn K (.ref f15) = true)
    {oc16 kV16 dc16 pm16 cd16 ct16 : Value} {od16 an16 : Option Addr} {sl16 : Array (Option Value)} {f16 : Addr} (a16 : PySem.W.nsIn K mainGlobals "_law_numbers" = some (some (.ref f16))) (l16 : K.lookup f16 = some ⟨oc16, od16, .func (PySem.W.fnOf "_law_numbers" "_law_numbers" (defArgs s__law_numbers) (defBody s__law_numbers) (defScope s__law_numbers) .none kV16 dc16 pm16 an16 cd16 ct16), sl16⟩) (c16 : PySem.W.codeIn K cd16 "_law_numbers" = true) (k16 : PySem.W.keepIn K (.ref f16) = true)
    {oc17 kV17 dc17 pm17 cd17 ct17 : Value} {od17 an17 : Option Addr} {sl17 : Array (Option Value)} {f17 : Addr} (a17 : PySem.W.nsIn K mainGlobals "_law_number" = some (some (.ref f17))) (l17 : K.lookup f17 = some ⟨oc17, od17, .func (PySem.W.fnOf "_law_number" "_law_number" (defArgs s__law_number) (defBody s__law_number) (defScope s__law_number) .none kV17 dc17 pm17 an17 cd17 ct17), sl17⟩) (c17 : PySem.W.codeIn K cd17 "_law_number" = true) (k17 : PySem.W.keepIn K (.ref f17) = true)
    {oc18 kV18 dc18 pm18 cd18 ct18 : Value} {od18 an18 : Option Addr} {sl18 : Array (Option Value)} {f18 : Addr} (a18 : PySem.W.nsIn K mainGlobals "_law_bed" = some (some (.ref f18))) (l18 : K.lookup f18 = some ⟨oc18, od18, .func (PySem.W.fnOf "_law_bed" "_law_bed" (defArgs s__law_bed) (defBody s__law_bed) (defScope s__law_bed) .none kV18 dc18 pm18 an18 cd18 ct18), sl18⟩) (c18 : PySem.W.codeIn K cd18 "_law_bed" = true) (k18 : PySem.W.keepIn K (.ref f18) = true)
    {oc19 kV19 dc19 pm19 cd19 ct19 : Value} {od19 an19 : Option Addr} {sl19 : Array (Option Value)} {f19 : Addr} (a19 : PySem.W.nsIn K mainGlobals "_law_cutter" = some (some (.ref f19))) (l19 : K.lookup f19 = some ⟨oc19, od19, .func (PySem.W.fnOf "_law_cutter" "_law_cutter" (defArgs s__law_cutter) (defBody s__law_cutter) (defScope s__law_cutter) .none kV19 dc19 pm19 an19 cd19 ct19), sl19⟩) (c19 : PySem.W.codeIn K cd19 "_law_cutter" = true) (k19 : PySem.W.keepIn K (.ref f19) = true)
    {oc20 kV20 dc20 pm20 cd20 ct20 : Value} {od20 an20 : Option Addr} {sl20 : Array (Option Value)} {f20 : Addr} (a20 : PySem.W.nsIn K mainGlobals "_law_shelf" = some (some (.ref f20))) (l20 : K.lookup f20 = some ⟨oc20, od20, .func (PySem.W.fnOf "_law_shelf" "_law_shelf" (defArgs s__law_shelf) (defBody s__law_shelf) (defScope s__law_shelf) .none kV20 dc20 pm20 an20 cd20 ct20), sl20⟩) (c20 : PySem.W.codeIn K cd20 "_law_shelf" = true) (k20 : PySem.W.keepIn K (.ref f20) = true)
    {oc21 kV21 dc21 pm21 cd21 ct21 : Value} {od21 an21 : Option Addr} {sl21 : Array (Option Value)} {f21 : Addr} (a21 : PySem.W.nsIn K mainGlobals "_law_under" = some (some (.ref f21))) (l21 : K.lookup f21 = some ⟨oc21, od21, .func (PySem.W.fnOf "_law_under" "_law_under" (defArgs s__law_under) (defBody s__law_under) (defScope s__law_under) .none kV21 dc21 pm21 an21 cd21 ct21), sl21⟩) (c21 : PySem.W.codeIn K cd21 "_law_under" = true) (k21 : PySem.W.keepIn K (.ref f21) = true)
    {oc22 kV22 dc22 pm22 cd22 ct22 : Value} {od22 an22 : Option Addr} {sl22 : Array (Option Value)} {f22 : Addr} (a22 : PySem.W.nsIn K mainGlobals "_law_way" = some (some (.ref f22))) (l22 : K.lookup f22 = some ⟨oc22, od22, .func (PySem.W.fnOf "_law_way" "_law_way" (defArgs s__law_way) (defBody s__law_way) (defScope s__law_way) .none kV22 dc22 pm22 an22 cd22 ct22), sl22⟩) (c22 : PySem.W.codeIn K cd22 "_law_way" = true) (k22 : PySem.W.keepIn K (.ref f22) = true)
    {oc23 kV23 dc23 pm23 cd23 ct23 : Value} {od23 an23 : Option Addr} {sl23 : Array (Option Value)} {f23 : Addr} (a23 : PySem.W.nsIn K mainGlobals "_law_done" = some (some (.ref f23))) (l23 : K.lookup f23 = some ⟨oc23, od23, .func (PySem.W.fnOf "_law_done" "_law_done" (defArgs s__law_done) (defBody s__law_done) (defScope s__law_done) .none kV23 dc23 pm23 an23 cd23 ct23), sl23⟩) (c23 : PySem.W.codeIn K cd23 "_law_done" = true) (k23 : PySem.W.keepIn K (.ref f23) = true)
    {oc24 kV24 dc24 pm24 cd24 ct24 : Value} {od24 an24 : Option Addr} {sl24 : Array (Option Value)} {f24 : Addr} (a24 : PySem.W.nsIn K mainGlobals "_law_moves" = some (some (.ref f24))) (l24 : K.lookup f24 = some ⟨oc24, od24, .func (PySem.W.fnOf "_law_moves" "_law_moves" (defArgs s__law_moves) (defBody s__law_moves) (defScope s__law_moves) .none kV24 dc24 pm24 an24 cd24 ct24), sl24⟩) (c24 : PySem.W.codeIn K cd24 "_law_moves" = true) (k24 : PySem.W.keepIn K (.ref f24) = true)
    {oc25 kV25 dc25 pm25 cd25 ct25 : Value} {od25 an25 : Option Addr} {sl25 : Array (Option Value)} {f25 : Addr} (a25 : PySem.W.nsIn K mainGlobals "_law_walked" = some (some (.ref f25))) (l25 : K.lookup f25 = some ⟨oc25, od25, .func (PySem.W.fnOf "_law_walked" "_law_walked" (defArgs s__law_walked) (defBody s__law_walked) (defScope s__law_walked) .none kV25 dc25 pm25 an25 cd25 ct25), sl25⟩) (c25 : PySem.W.codeIn K cd25 "_law_walked" = true) (k25 : PySem.W.keepIn K (.ref f25) = true)
    {oc26 kV26 dc26 pm26 cd26 ct26 : Value} {od26 an26 : Option Addr} {sl26 : Array (Option Value)} {f26 : Addr} (a26 : PySem.W.nsIn K mainGlobals "_law_within" = some (some (.ref f26))) (l26 : K.lookup f26 = some ⟨oc26, od26, .func (PySem.W.fnOf "_law_within" "_law_within" (defArgs s__law_within) (defBody s__law_within) (defScope s__law_within) .none kV26 dc26 pm26 an26 cd26 ct26), sl26⟩) (c26 : PySem.W.codeIn K cd26 "_law_within" = true) (k26 : PySem.W.keepIn K (.ref f26) = true)
    {oc27 kV27 dc27 pm27 cd27 ct27 : Value} {od27 an27 : Option Addr} {sl27 : Array (Option Value)} {f27 : Addr} (a27 : PySem.W.nsIn K mainGlobals "_law_first" = some (some (.ref f27))) (l27 : K.lookup f27 = some ⟨oc27, od27, .func (PySem.W.fnOf "_law_first" "_law_first" (defArgs s__law_first) (defBody s__law_first) (defScope s__law_first) .none kV27 dc27 pm27 an27 cd27 ct27), sl27⟩) (c27 : PySem.W.codeIn K cd27 "_law_first" = true) (k27 : PySem.W.keepIn K (.ref f27) = true)
    {oc28 kV28 dc28 pm28 cd28 ct28 : Value} {od28 an28 : Option Addr} {sl28 : Array (Option Value)} {f28 : Addr} (a28 : PySem.W.nsIn K mainGlobals "law" = some (some (.ref f28))) (l28 : K.lookup f28 = some ⟨oc28, od28, .func (PySem.W.fnOf "law" "law" (defArgs s_law) (defBody s_law) (defScope s_law) .none kV28 dc28 pm28 an28 cd28 ct28), sl28⟩) (c28 : PySem.W.codeIn K cd28 "law" = true) (k28 : PySem.W.keepIn K (.ref f28) = true)
    (zint : PySem.W.nsIn K mainGlobals "int" = some none)
    (zisinstance : PySem.W.nsIn K mainGlobals "isinstance" = some none)
    (zlen : PySem.W.nsIn K mainGlobals "len" = some none)
    (zlist : PySem.W.nsIn K mainGlobals "list" = some none)
    (zmax : PySem.W.nsIn K mainGlobals "max" = some none)
    (zmin : PySem.W.nsIn K mainGlobals "min" = some none)
    (zrange : PySem.W.nsIn K mainGlobals "range" = some none)
    {tk_TOP : Tok} (gc_TOP : PySem.W.nsIn K mainGlobals "TOP" = some (some (.int 1000 tk_TOP))) :
    ∃ fd : FuncData, (∀ (s : Shared) (v : Value), BindsTo s fd ⟨[v], []⟩ [("script", v)]) ∧ ∀ base : Heap, K.In base → base.Ns mainGlobals mg → FnOk l.prog w K mg base (L2.CX l.prog w) 7 fa fd ["script"] (spLaw K) := by
  have e := hfa.symm.trans (PySem.W.mg_of X G a28)
  cases e
  have T : Tx K mg (fun n => match n with | 0 => f0 | 1 => f1 | 2 => f2 | 3 => f3 | 4 => f4 | 5 => f5 | 6 => f6 | 7 => f7 | 8 => f8 | 9 => f9 | 10 => f10 | 11 => f11 | 12 => f12 | 13 => f13 | 14 => f14 | 15 => f15 | 16 => f16 | 17 => f17 | 18 => f18 | 19 => f19 | 20 => f20 | 21 => f21 | 22 => f22 | 23 => f23 | 24 => f24 | 25 => f25 | 26 => f26 | 27 => f27 | 28 => fa | _ => fa) (fun n => match n with | 0 => PySem.W.fnOf "cells_under" "cells_under" (defArgs s_cells_under) (defBody s_cells_under) (defScope s_cells_under) .none kV0 dc0 pm0 an0 cd0 ct0 | 1 => PySem.W.fnOf "places_between" "places_between" (defArgs s_places_between) (defBody s_places_between) (defScope s_places_between) .none kV1 dc1 pm1 an1 cd1 ct1 | 2 => PySem.W.fnOf "__init__" "Carver.__init__" (defArgs s_Carver___init__) (defBody s_Carver___init__) (defScope s_Carver___init__) .none kV2 dc2 pm2 an2 cd2 ct2 | 3 => PySem.W.fnOf "hold_fault" "Carver.hold_fault" (defArgs s_Carver_hold_fault) (defBody s_Carver_hold_fault) (defScope s_Carver_hold_fault) .none kV3 dc3 pm3 an3 cd3 ct3 | 4 => PySem.W.fnOf "move_fault" "Carver.move_fault" (defArgs s_Carver_move_fault) (defBody s_Carver_move_fault) (defScope s_Carver_move_fault) .none kV4 dc4 pm4 an4 cd4 ct4 | 5 => PySem.W.fnOf "swept" "Carver.swept" (defArgs s_Carver_swept) (defBody s_Carver_swept) (defScope s_Carver_swept) .none kV5 dc5 pm5 an5 cd5 ct5 | 6 => PySem.W.fnOf "gone" "Carver.gone" (defArgs s_Carver_gone) (defBody s_Carver_gone) (defScope s_Carver_gone) .none kV6 dc6 pm6 an6 cd6 ct6 | 7 => PySem.W.fnOf "met" "met" (defArgs s_met) (defBody s_met) (defScope s_met) .none kV7 dc7 pm7 an7 cd7 ct7 | 8 => PySem.W.fnOf "cut_down" "cut_down" (defArgs s_cut_down) (defBody s_cut_down) (defScope s_cut_down) .none kV8 dc8 pm8 an8 cd8 ct8 | 9 => PySem.W.fnOf "done_move" "done_move" (defArgs s_done_move) (defBody s_done_move) (defScope s_done_move) .none kV9 dc9 pm9 an9 cd9 ct9 | 10 => PySem.W.fnOf "carved" "carved" (defArgs s_carved) (defBody s_carved) (defScope s_carved) .none kV10 dc10 pm10 an10 cd10 ct10 | 11 => PySem.W.fnOf "leaves" "leaves" (defArgs s_leaves) (defBody s_leaves) (defScope s_leaves) .none kV11 dc11 pm11 an11 cd11 ct11 | 12 => PySem.W.fnOf "fewer" "fewer" (defArgs s_fewer) (defBody s_fewer) (defScope s_fewer) .none kV12 dc12 pm12 an12 cd12 ct12 | 13 => PySem.W.fnOf "told_apart" "told_apart" (defArgs s_told_apart) (defBody s_told_apart) (defScope s_told_apart) .none kV13 dc13 pm13 an13 cd13 ct13 | 14 => PySem.W.fnOf "_law_cell_at" "_law_cell_at" (defArgs s__law_cell_at) (defBody s__law_cell_at) (defScope s__law_cell_at) .none kV14 dc14 pm14 an14 cd14 ct14 | 15 => PySem.W.fnOf "_law_mixed" "_law_mixed" (defArgs s__law_mixed) (defBody s__law_mixed) (defScope s__law_mixed) .none kV15 dc15 pm15 an15 cd15 ct15 | 16 => PySem.W.fnOf "_law_numbers" "_law_numbers" (defArgs s__law_numbers) (defBody s__law_numbers) (defScope s__law_numbers) .none kV16 dc16 pm16 an16 cd16 ct16 | 17 => PySem.W.fnOf "_law_number" "_law_number" (defArgs s__law_number) (defBody s__law_number) (defScope s__law_number) .none kV17 dc17 pm17 an17 cd17 ct17 | 18 => PySem.W.fnOf "_law_bed" "_law_bed" (defArgs s__law_bed) (defBody s__law_bed) (defScope s__law_bed) .none kV18 dc18 pm18 an18 cd18 ct18 | 19 => PySem.W.fnOf "_law_cutter" "_law_cutter" (defArgs s__law_cutter) (defBody s__law_cutter) (defScope s__law_cutter) .none kV19 dc19 pm19 an19 cd19 ct19 | 20 => PySem.W.fnOf "_law_shelf" "_law_shelf" (defArgs s__law_shelf) (defBody s__law_shelf) (defScope s__law_shelf) .none kV20 dc20 pm20 an20 cd20 ct20 | 21 => PySem.W.fnOf "_law_under" "_law_under" (defArgs s__law_under) (defBody s__law_under) (defScope s__law_under) .none kV21 dc21 pm21 an21 cd21 ct21 | 22 => PySem.W.fnOf "_law_way" "_law_way" (defArgs s__law_way) (defBody s__law_way) (defScope s__law_way) .none kV22 dc22 pm22 an22 cd22 ct22 | 23 => PySem.W.fnOf "_law_done" "_law_done" (defArgs s__law_done) (defBody s__law_done) (defScope s__law_done) .none kV23 dc23 pm23 an23 cd23 ct23 | 24 => PySem.W.fnOf "_law_moves" "_law_moves" (defArgs s__law_moves) (defBody s__law_moves) (defScope s__law_moves) .none kV24 dc24 pm24 an24 cd24 ct24 | 25 => PySem.W.fnOf "_law_walked" "_law_walked" (defArgs s__law_walked) (defBody s__law_walked) (defScope s__law_walked) .none kV25 dc25 pm25 an25 cd25 ct25 | 26 => PySem.W.fnOf "_law_within" "_law_within" (defArgs s__law_within) (defBody s__law_within) (defScope s__law_within) .none kV26 dc26 pm26 an26 cd26 ct26 | 27 => PySem.W.fnOf "_law_first" "_law_first" (defArgs s__law_first) (defBody s__law_first) (defScope s__law_first) .none kV27 dc27 pm27 an27 cd27 ct27 | 28 => PySem.W.fnOf "law" "law" (defArgs s_law) (defBody s_law) (defScope s_law) .none kV28 dc28 pm28 an28 cd28 ct28 | _ => PySem.W.fnOf "law" "law" (defArgs s_law) (defBody s_law) (defScope s_law) .none kV28 dc28 pm28 an28 cd28 ct28) (fun n => match n with | 0 => g0 | _ => fa) := ⟨fun_mk (st := s_cells_under) l0 c0 k0,
    PySem.W.mg_of X G a0,
    (fun_mk (st := s_cells_under) l0 c0 k0).binds (ps := ["foot", "x", "y", "wide", "deep"]) fun _ _ _ _ _ _ us hl => match us, hl with | [_, _, _, _, _], _ => rfl,
    fun_mk (st := s_places_between) l1 c1 k1,
    PySem.W.mg_of X G a1,
    (fun_mk (st := s_places_between) l1 c1 k1).binds (ps := ["x", "y", "axis", "to"]) fun _ _ _ _ _ _ us hl => match us, hl with | [_, _, _, _], _ => rfl,
    fun_mk (st := s_Carver___init__) l2 c2 k2,
    (fun_mk (st := s_Carver___init__) l2 c2 k2).binds (ps := ["self", "shelf", "wide", "deep"]) fun _ _ _ _ _ _ us hl => match us, hl with | [_, _, _, _], _ => rfl,
    fun_mk (st := s_Carver_hold_fault) l3 c3 k3,
    ⟨a3, i3, k3⟩,
    (fun_mk (st := s_Carver_hold_fault) l3 c3 k3).binds (ps := ["self", "number"]) fun _ _ _ _ _ _ us hl => match us, hl with | [_, _], _ => rfl,
    fun_mk (st := s_Carver_move_fault) l4 c4 k4,
    ⟨a4, i4, k4⟩,
    (fun_mk (st := s_Carver_move_fault) l4 c4 k4).binds (ps := ["self", "axis", "to"]) fun _ _ _ _ _ _ us hl => match us, hl with | [_, _, _], _ => rfl,
    fun_mk (st := s_Carver_swept) l5 c5 k5,
    ⟨a5, i5, k5⟩,
    (fun_mk (st := s_Carver_swept) l5 c5 k5).binds (ps := ["self", "axis", "to"]) fun _ _ _ _ _ _ us hl => match us, hl with | [_, _, _], _ => rfl,
    fun_mk (st := s_Carver_gone) l6 c6 k6,
    ⟨a6, i6, k6⟩,
    (fun_mk (st := s_Carver_gone) l6 c6 k6).binds (ps := ["self", "axis", "to"]) fun _ _ _ _ _ _ us hl => match us, hl with | [_, _, _], _ => rfl,
    fun_mk (st := s_met) l7 c7 k7,
    PySem.W.mg_of X G a7,
    (fun_mk (st := s_met) l7 c7 k7).binds (ps := ["heights", "cells", "most"]) fun _ _ _ _ _ _ us hl => match us, hl with | [_, _, _], _ => rfl,
    fun_mk (st := s_cut_down) l8 c8 k8,
    PySem.W.mg_of X G a8,
    (fun_mk (st := s_cut_down) l8 c8 k8).binds (ps := ["heights", "cells", "low"]) fun _ _ _ _ _ _ us hl => match us, hl with | [_, _, _], _ => rfl,
    fun_mk (st := s_done_move) l9 c9 k9,
    PySem.W.mg_of X G a9,
    (fun_mk (st := s_done_move) l9 c9 k9).binds (ps := ["carver", "heights", "move"]) fun _ _ _ _ _ _ us hl => match us, hl with | [_, _, _], _ => rfl,
    fun_mk (st := s_carved) l10 c10 k10,
    PySem.W.mg_of X G a10,
    (fun_mk (st := s_carved) l10 c10 k10).binds (ps := ["bed", "shelf", "moves"]) fun _ _ _ _ _ _ us hl => match us, hl with | [_, _, _], _ => rfl,
    fun_mk (st := s_leaves) l11 c11 k11,
    PySem.W.mg_of X G a11,
    (fun_mk (st := s_leaves) l11 c11 k11).binds (ps := ["bed", "shelf", "moves", "wanted"]) fun _ _ _ _ _ _ us hl => match us, hl with | [_, _, _, _], _ => rfl,
    fun_mk (st := s_fewer) l12 c12 k12,
    PySem.W.mg_of X G a12,
    (fun_mk (st := s_fewer) l12 c12 k12).binds (ps := ["bed", "shelf", "moves"]) fun _ _ _ _ _ _ us hl => match us, hl with | [_, _, _], _ => rfl,
    fun_mk (st := s_told_apart) l13 c13 k13,
    PySem.W.mg_of X G a13,
    (fun_mk (st := s_told_apart) l13 c13 k13).binds (ps := ["bed", "shelf", "moves", "others"]) fun _ _ _ _ _ _ us hl => match us, hl with | [_, _, _, _], _ => rfl,
    fun_mk (st := s__law_cell_at) l14 c14 k14,
    PySem.W.mg_of X G a14,
    (fun_mk (st := s__law_cell_at) l14 c14 k14).binds (ps := ["script", "k"]) fun _ _ _ _ _ _ us hl => match us, hl with | [_, _], _ => rfl,
    fun_mk (st := s__law_mixed) l15 c15 k15,
    PySem.W.mg_of X G a15,
    (fun_mk (st := s__law_mixed) l15 c15 k15).binds (ps := ["cell", "k"]) fun _ _ _ _ _ _ us hl => match us, hl with | [_, _], _ => rfl,
    fun_mk (st := s__law_numbers) l16 c16 k16,
    PySem.W.mg_of X G a16,
    (fun_mk (st := s__law_numbers) l16 c16 k16).binds (ps := ["script", "k", "many"]) fun _ _ _ _ _ _ us hl => match us, hl with | [_, _, _], _ => rfl,
    fun_mk (st := s__law_number) l17 c17 k17,
    PySem.W.mg_of X G a17,
    (fun_mk (st := s__law_number) l17 c17 k17).binds (ps := ["script", "k"]) fun _ _ _ _ _ _ us hl => match us, hl with | [_, _], _ => rfl,
    fun_mk (st := s__law_bed) l18 c18 k18,
    PySem.W.mg_of X G a18,
    (fun_mk (st := s__law_bed) l18 c18 k18).binds (ps := ["script"]) fun _ _ _ _ _ _ us hl => match us, hl with | [_], _ => rfl,
    fun_mk (st := s__law_cutter) l19 c19 k19,
    PySem.W.mg_of X G a19,
    (fun_mk (st := s__law_cutter) l19 c19 k19).binds (ps := ["numbers"]) fun _ _ _ _ _ _ us hl => match us, hl with | [_], _ => rfl,
    fun_mk (st := s__law_shelf) l20 c20 k20,
    PySem.W.mg_of X G a20,
    (fun_mk (st := s__law_shelf) l20 c20 k20).binds (ps := ["script"]) fun _ _ _ _ _ _ us hl => match us, hl with | [_], _ => rfl,
    fun_mk (st := s__law_under) l21 c21 k21,
    PySem.W.mg_of X G a21,
    (fun_mk (st := s__law_under) l21 c21 k21).binds (ps := ["bed", "foot", "x", "y"]) fun _ _ _ _ _ _ us hl => match us, hl with | [_, _, _, _], _ => rfl,
    fun_mk (st := s__law_way) l22 c22 k22,
    PySem.W.mg_of X G a22,
    (fun_mk (st := s__law_way) l22 c22 k22).binds (ps := ["place", "axis", "to"]) fun _ _ _ _ _ _ us hl => match us, hl with | [_, _, _], _ => rfl,
    fun_mk (st := s__law_done) l23 c23 k23,
    PySem.W.mg_of X G a23,
    (fun_mk (st := s__law_done) l23 c23 k23).binds (ps := ["bed", "shelf", "held", "move"]) fun _ _ _ _ _ _ us hl => match us, hl with | [_, _, _, _], _ => rfl,
    fun_mk (st := s__law_moves) l24 c24 k24,
    PySem.W.mg_of X G a24,
    (fun_mk (st := s__law_moves) l24 c24 k24).binds (ps := ["script", "bed", "shelf"]) fun _ _ _ _ _ _ us hl => match us, hl with | [_, _, _], _ => rfl,
    fun_mk (st := s__law_walked) l25 c25 k25,
    PySem.W.mg_of X G a25,
    (fun_mk (st := s__law_walked) l25 c25 k25).binds (ps := ["bed", "shelf", "moves"]) fun _ _ _ _ _ _ us hl => match us, hl with | [_, _, _], _ => rfl,
    fun_mk (st := s__law_within) l26 c26 k26,
    PySem.W.mg_of X G a26,
    (fun_mk (st := s__law_within) l26 c26 k26).binds (ps := ["some", "moves"]) fun _ _ _ _ _ _ us hl => match us, hl with | [_, _], _ => rfl,
    fun_mk (st := s__law_first) l27 c27 k27,
    PySem.W.mg_of X G a27,
    (fun_mk (st := s__law_first) l27 c27 k27).binds (ps := ["one", "other"]) fun _ _ _ _ _ _ us hl => match us, hl with | [_, _], _ => rfl,
    fun_mk (st := s_law) l28 c28 k28,
    PySem.W.mg_of X G a28,
    (fun_mk (st := s_law) l28 c28 k28).binds (ps := ["script"]) fun _ _ _ _ _ _ us hl => match us, hl with | [_], _ => rfl,
    n0,
    PySem.W.mg_of X G n0,
    ⟨pg0, hd0, po0, sa0⟩,
    ⟨mk0, a2, i2, kc0⟩,
    nf0_shelf,
    nf0_wide,
    nf0_deep,
    nf0_cutter,
    nf0_x,
    nf0_y,
    nf0_z,
    PySem.W.mg_none_of X G zint,
    PySem.W.mg_none_of X G zisinstance,
    PySem.W.mg_none_of X G zlen,
    PySem.W.mg_none_of X G zlist,
    PySem.W.mg_none_of X G zmax,
    PySem.W.mg_none_of X G zmin,
    PySem.W.mg_none_of X G zrange,
    ⟨_, PySem.W.mg_of X G gc_TOP⟩⟩
  exact ⟨PySem.W.fnOf "law" "law" (defArgs s_law) (defBody s_law) (defScope s_law) .none kV28 dc28 pm28 an28 cd28 ct28, fun s v => .of_eq rfl, fun base _ _ => law_imp (ok_law T) law_true⟩
theorem walk {l : PySem.W.OpenLaw} {q : Program} {loose : List Str} {XP : (Str → Option Value) → Heap → Prop} {YP : World → Heap → Prop} {d : DefRec} {K : Params → PySem.W.Frag} (hn : l.most = some 63) (hdf : d.params.defaults = [])
    (hY : ∀ (w : World) (h : Heap), YP w h → (K w.params).In h)
    (F : ∀ (w : World) (mg : Str → Option Value) (fa : Addr) (h : Heap), (K w.params).In h → h.Ns mainGlobals mg → mg d.name = some (.ref fa) →
      ∃ fd : FuncData, (∀ (s : Shared) (u : Value), BindsTo s fd ⟨[u], []⟩ [("script", u)]) ∧ ∀ base : Heap, (K w.params).In base → base.Ns mainGlobals mg → FnOk l.prog w (K w.params) mg base (L2.CX l.prog w) 7 fa fd ["script"] (spLaw (K w.params))) :
    PySem.W.WalkO q loose XP YP l.row.toRowW d [] (fun f vs => PySem.call f vs) :=
  L2.walk_of (n := 63) (k := 7) (x := "script") (CX := fun w => L2.CX l.prog w) (sp := fun w => spLaw (K w.params)) hn (by decide) hdf ⟨rfl, by decide, by decide⟩ hY F (fun _ _ a ns hl _ hS => ⟨a, ns, rfl, hl, hS, fun _ => rfl⟩) fun w H s e s' z => by
    obtain ⟨_, _, _, _, _, _, _, _, _, _, _, _, z⟩ := z
    exact z.elim
end GG
open PySem PySem.W PyProof.Rows in
set_option maxRecDepth 100000 in
set_option maxHeartbeats 0 in
theorem PySem.Challenge.cw_carvebed_k65_whole_fewer_leave_the_same_holds : PySem.Challenge.rw_carvebed_k65_whole_fewer_leave_the_same.Holds := by
  w_on; o_law; k_head; (case hw => w_witness2)
  k_fill
  refine GG.walk (l := PySem.Challenge.rw_carvebed_k65_whole_fewer_leave_the_same) rfl rfl (fun w h Y => PySem.W.kIn_of Y) ?F
  case F =>
    intro w mg fa h KX G hmg
    refine' GG.all_mk KX G hmg ?n0 ?pg0 ?hd0 ?po0 ?sa0 ?mk0 ?kc0 ?nf0_shelf ?nf0_wide ?nf0_deep ?nf0_cutter ?nf0_x ?nf0_y ?nf0_z ?a0 ?l0 ?c0 ?k0 ?a1 ?l1 ?c1 ?k1 ?a2 ?i2 ?l2 ?c2 ?k2 ?a3 ?i3 ?l3 ?c3 ?k3 ?a4 ?i4 ?l4 ?c4 ?k4 ?a5 ?i5 ?l5 ?c5 ?k5 ?a6 ?i6 ?l6 ?c6 ?k6 ?a7 ?l7 ?c7 ?k7 ?a8 ?l8 ?c8 ?k8 ?a9 ?l9 ?c9 ?k9 ?a10 ?l10 ?c10 ?k10 ?a11 ?l11 ?c11 ?k11 ?a12 ?l12 ?c12 ?k12 ?a13 ?l13 ?c13 ?k13 ?a14 ?l14 ?c14 ?k14 ?a15 ?l15 ?c15 ?k15 ?a16 ?l16 ?c16 ?k16 ?a17 ?l17 ?c17 ?k17 ?a18 ?l18 ?c18 ?k18 ?a19 ?l19 ?c19 ?k19 ?a20 ?l20 ?c20 ?k20 ?a21 ?l21 ?c21 ?k21 ?a22 ?l22 ?c22 ?k22 ?a23 ?l23 ?c23 ?k23 ?a24 ?l24 ?c24 ?k24 ?a25 ?l25 ?c25 ?k25 ?a26 ?l26 ?c26 ?k26 ?a27 ?l27 ?c27 ?k27 ?a28 ?l28 ?c28 ?k28 ?zint ?zisinstance ?zlen ?zlist ?zmax ?zmin ?zrange ?gc_TOP
    (case n0 => k_is)
    (case pg0 => k_is)
    (case hd0 => k_is)
    (case po0 => k_is)
    (case sa0 => k_is)
    (case mk0 => k_is)
    (case kc0 => k_is)
    (case nf0_shelf => k_is)
    (case nf0_wide => k_is)
    (case nf0_deep => k_is)
    (case nf0_cutter => k_is)
    (case nf0_x => k_is)
    (case nf0_y => k_is)
    (case nf0_z => k_is)
    (case a0 => k_is)
    (case l0 => k_is)
    (case c0 => k_is)
    (case k0 => k_is)
    (case a1 => k_is)
    (case l1 => k_is)
    (case c1 => k_is)
    (case k1 => k_is)
    (case a2 => k_is)
    (case i2 => k_is)
    (case l2 => k_is)
    (case c2 => k_is)
    (case k2 => k_is)
    (case a3 => k_is)
    (case i3 => k_is)
    (case l3 => k_is)
    (case c3 => k_is)
    (case k3 => k_is)
    (case a4 => k_is)
    (case i4 => k_is)
    (case l4 => k_is)
    (case c4 => k_is)
    (case k4 => k_is)
    (case a5 => k_is)
    (case i5 => k_is)
    (case l5 => k_is)
    (case c5 => k_is)
    (case k5 => k_is)
    (case a6 => k_is)
    (case i6 => k_is)
    (case l6 => k_is)
    (case c6 => k_is)
    (case k6 => k_is)
    (case a7 => k_is)
    (case l7 => k_is)
    (case c7 => k_is)
    (case k7 => k_is)
    (case a8 => k_is)
    (case l8 => k_is)
    (case c8 => k_is)
    (case k8 => k_is)
    (case a9 => k_is)
    (case l9 => k_is)
    (case c9 => k_is)
    (case k9 => k_is)
    (case a10 => k_is)
    (case l10 => k_is)
    (case c10 => k_is)
    (case k10 => k_is)
    (case a11 => k_is)
    (case l11 => k_is)
    (case c11 => k_is)
    (case k11 => k_is)
    (case a12 => k_is)
    (case l12 => k_is)
    (case c12 => k_is)
    (case k12 => k_is)
    (case a13 => k_is)
    (case l13 => k_is)
    (case c13 => k_is)
    (case k13 => k_is)
    (case a14 => k_is)
    (case l14 => k_is)
    (case c14 => k_is)
    (case k14 => k_is)
    (case a15 => k_is)
    (case l15 => k_is)
    (case c15 => k_is)
    (case k15 => k_is)
    (case a16 => k_is)
    (case l16 => k_is)
    (case c16 => k_is)
    (case k16 => k_is)
    (case a17 => k_is)
    (case l17 => k_is)
    (case c17 => k_is)
    (case k17 => k_is)
    (case a18 => k_is)
    (case l18 => k_is)
    (case c18 => k_is)
    (case k18 => k_is)
    (case a19 => k_is)
    (case l19 => k_is)
    (case c19 => k_is)
    (case k19 => k_is)
    (case a20 => k_is)
    (case l20 => k_is)
    (case c20 => k_is)
    (case k20 => k_is)
    (case a21 => k_is)
    (case l21 => k_is)
    (case c21 => k_is)
    (case k21 => k_is)
    (case a22 => k_is)
    (case l22 => k_is)
    (case c22 => k_is)
    (case k22 => k_is)
    (case a23 => k_is)
    (case l23 => k_is)
    (case c23 => k_is)
    (case k23 => k_is)
    (case a24 => k_is)
    (case l24 => k_is)
    (case c24 => k_is)
    (case k24 => k_is)
    (case a25 => k_is)
    (case l25 => k_is)
    (case c25 => k_is)
    (case k25 => k_is)
    (case a26 => k_is)
    (case l26 => k_is)
    (case c26 => k_is)
    (case k26 => k_is)
    (case a27 => k_is)
    (case l27 => k_is)
    (case c27 => k_is)
    (case k27 => k_is)
    (case a28 => k_is)
    (case l28 => k_is)
    (case c28 => k_is)
    (case k28 => k_is)
    (case zint => k_is)
    (case zisinstance => k_is)
    (case zlen => k_is)
    (case zlist => k_is)
    (case zmax => k_is)
    (case zmin => k_is)
    (case zrange => k_is)
    (case gc_TOP => k_is)
