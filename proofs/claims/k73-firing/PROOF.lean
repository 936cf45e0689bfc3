import PyProof.Rows.All
import Wide.All
import OpenK.AllK
import Wide.FinOn
import HandS.Walk
import HandS.ForExc
import HandS.Comp
import HandS.Iter
import HandS.Zip
import HandS.IsInst
import HandS.TupAny
import HandS.TupMul
import HandS.Wide
import HandS.Gcd
import HandS.Flow
import HandS.Style
import HandS.Conv
import HandS.Deep
import HandS.Dict
import HandS.Lambda
import HandS.EndTab
import HandS.HotCalls
import HandS.ExcInit
import HandS.ExcIs
import HandS.ExcField
import HandS.Defaults
import HandS.HeadHook4
import HandS.HeadWalk
import HandS.Head0
import HandS.Head1
import HandS.Head2
import KE.KExcIs
import HandS.More
import HandS.OwnEq
import HandS.SortInts
import HandS.Zip0
import HandS.HeadEnd
import HandS.Head3
import PySem.Challenge.RW_flowwebs_k73_whole_firing
import KE.KStateDown
import PyProof.ReprBulk
import PyProof.FitsInt
set_option Elab.async false
set_option linter.all false
set_option maxRecDepth 100000
section
set_option maxHeartbeats 2000000
/-! Pure values over the hand layer: data D, how a heap bears it, readings by a pure mirror. -/
namespace Pu
open PySem PySem.Spec PyProof.Rows L2

abbrev St := L2.St
/-! ### data -/
inductive D where
  | non
  | bl (b : Bool)
  | int (i : Int)
  | str (x : Str)
  | tup (xs : List D)
  | lst (xs : List D)
  | dct (kvs : List (Key × D))
  | obj (c : Str) (fs : List (Str × D))
  | pen
  | fn (x : Str)
  | ty (n : String)
  | exc (c : Str) (fs : List (Str × D))
  | scr (ns : List Int)
  | clo
  | lam (x : Str)

def D.isFn : D → Bool
  | .fn _ => true
  | .exc _ _ => true
  | .scr _ => true
  | .clo => true
  | .lam _ => true
  | _ => false

/-- a lambda that captures nothing: its words -/
structure LamD where
  nm : Str
  ps : Arguments
  body : Expr
  sc : Scope
/-- the object at f is that lambda, its code object at cl -/
def FunO (f : Addr) (l : LamD) (cl : Addr) : HO := .ext fun h => ∃ (pm ct : Value), h.get? f = some (PySem.W.kla_obj "<lambda>" l.nm l.ps l.body l.sc [] pm cl ct)
/-- what the readings lean on: the written part, the module's names, where the pen stands, the tables of code objects -/
structure Ctx where
  K : PySem.W.Frag
  mg : Str → Option Value
  pa : Option Addr
  pl : Addr
  T : List (Addr × Str)
  ex : Option (Addr × Value × Option Addr)
  cl : Option (Addr × Addr × Str × Hp)
  lt : List (Str × LamD)

abbrev Sub (G G' : Hp) : Prop := ∀ a o, G a = some o → G' a = some o
theorem Sub.refl (G : Hp) : Sub G G := fun _ _ h => h
theorem Sub.trans {G G1 G2 : Hp} (a : Sub G G1) (b : Sub G1 G2) : Sub G G2 := fun c o h => b c o (a c o h)

mutual
inductive Rep (C : Ctx) (G : Hp) : V → D → Prop where
  | non : Rep C G .non .non
  | bl (b : Bool) : Rep C G (.bl b) (.bl b)
  | int (i : Int) : Rep C G (.int i) (.int i)
  | str (x : Str) : Rep C G (.str x) (.str x)
  | tup {a : Addr} {vs : List V} {ds : List D} (h : G a = some (.tup vs)) (r : Reps C G vs ds) : Rep C G (.ref a) (.tup ds)
  | lst {a : Addr} {vs : List V} {ds : List D} (h : G a = some (.lst vs)) (r : Reps C G vs ds) : Rep C G (.ref a) (.lst ds)
  | dct {a : Addr} {kvs : List (Key × V)} {ks : List (Key × D)} (h : G a = some (.dK kvs)) (r : RepK C G kvs ks) : Rep C G (.ref a) (.dct ks)
  | obj {a dx cA : Addr} {c : Str} {fvs : List (Str × V)} {fs : List (Str × D)} (m : C.mg c = some (.ref cA)) (h : G a = some (.ins cA dx fvs)) (r : RepF C G fvs fs) : Rep C G (.ref a) (.obj c fs)
  | pen {a : Addr} (h : C.pa = some a) : Rep C G (.ref a) .pen
  | fn {f : Addr} {x : Str} (h : C.mg x = some (.ref f)) : Rep C G (.ref f) (.fn x)
  | ty (n : String) : Rep C G (.ty n) (.ty n)
  | scr {a : Addr} {ns : List Int} (h : SqL C.K G a (ns.map V.int)) : Rep C G (.ref a) (.scr ns)
  | clo {f c' : Addr} {q : Str} {Gc : Hp} (h : C.cl = some (f, c', q, Gc)) (s : Sub Gc G) : Rep C G (.ref f) .clo
  | lam {f c' : Addr} {x : Str} {l : LamD} (h : C.lt.lookup x = some l) (g : G f = some (FunO f l c')) (c : G c' = some (LamX.CodeO c' l.nm)) : Rep C G (.ref f) (.lam x)
  | exc0 {a cA : Addr} {c : Str} (h : C.ex = some (a, .ref cA, none)) (m : C.mg c = some (.ref cA)) : Rep C G (.ref a) (.exc c [])
  | exc1 {a cA x : Addr} {c : Str} {fvs : List (Str × V)} {fs : List (Str × D)} (h : C.ex = some (a, .ref cA, some x)) (m : C.mg c = some (.ref cA)) (g : G x = some (.xd fvs)) (r : RepF C G fvs fs) : Rep C G (.ref a) (.exc c fs)
inductive Reps (C : Ctx) (G : Hp) : List V → List D → Prop where
  | nil : Reps C G [] []
  | cons {v : V} {d : D} {vs : List V} {ds : List D} (h : Rep C G v d) (t : Reps C G vs ds) : Reps C G (v :: vs) (d :: ds)
inductive RepK (C : Ctx) (G : Hp) : List (Key × V) → List (Key × D) → Prop where
  | nil : RepK C G [] []
  | cons {k : Key} {v : V} {d : D} {vs : List (Key × V)} {ds : List (Key × D)} (h : Rep C G v d) (t : RepK C G vs ds) : RepK C G ((k, v) :: vs) ((k, d) :: ds)
inductive RepF (C : Ctx) (G : Hp) : List (Str × V) → List (Str × D) → Prop where
  | nil : RepF C G [] []
  | cons {k : Str} {v : V} {d : D} {vs : List (Str × V)} {ds : List (Str × D)} (h : Rep C G v d) (t : RepF C G vs ds) : RepF C G ((k, v) :: vs) ((k, d) :: ds)
end

theorem SqL.mono {K : PySem.W.Frag} {G G' : Hp} (s : Sub G G') {a : Addr} {xs : List V} (h : SqL K G a xs) : SqL K G' a xs := by
  rcases h with (h | ⟨o, h⟩) | h
  · exact .inl (.inl (s _ _ h))
  · exact .inl (.inr ⟨o, s _ _ h⟩)
  · exact .inr h
mutual
theorem Rep.mono {C : Ctx} {G G' : Hp} (s : Sub G G') : ∀ {v : V} {d : D}, Rep C G v d → Rep C G' v d
  | _, _, .non => .non
  | _, _, .bl b => .bl b
  | _, _, .int i => .int i
  | _, _, .str x => .str x
  | _, _, .tup h r => .tup (s _ _ h) (Reps.mono s r)
  | _, _, .lst h r => .lst (s _ _ h) (Reps.mono s r)
  | _, _, .dct h r => .dct (s _ _ h) (RepK.mono s r)
  | _, _, .obj m h r => .obj m (s _ _ h) (RepF.mono s r)
  | _, _, .pen h => .pen h
  | _, _, .fn h => .fn h
  | _, _, .ty n => .ty n
  | _, _, .scr h => .scr (SqL.mono s h)
  | _, _, .clo h s0 => .clo h (s0.trans s)
  | _, _, .lam h g c => .lam h (s _ _ g) (s _ _ c)
  | _, _, .exc0 h m => .exc0 h m
  | _, _, .exc1 h m g r => .exc1 h m (s _ _ g) (RepF.mono s r)
theorem Reps.mono {C : Ctx} {G G' : Hp} (s : Sub G G') : ∀ {vs : List V} {ds : List D}, Reps C G vs ds → Reps C G' vs ds
  | _, _, .nil => .nil
  | _, _, .cons h t => .cons (Rep.mono s h) (Reps.mono s t)
theorem RepK.mono {C : Ctx} {G G' : Hp} (s : Sub G G') : ∀ {vs : List (Key × V)} {ds : List (Key × D)}, RepK C G vs ds → RepK C G' vs ds
  | _, _, .nil => .nil
  | _, _, .cons h t => .cons (Rep.mono s h) (RepK.mono s t)
theorem RepF.mono {C : Ctx} {G G' : Hp} (s : Sub G G') : ∀ {vs : List (Str × V)} {ds : List (Str × D)}, RepF C G vs ds → RepF C G' vs ds
  | _, _, .nil => .nil
  | _, _, .cons h t => .cons (Rep.mono s h) (RepF.mono s t)
end

/-! ### lists of what is borne -/
section
variable {C : Ctx} {G G' : Hp}
theorem Reps.length : ∀ {vs : List V} {ds : List D}, Reps C G vs ds → vs.length = ds.length
  | _, _, .nil => rfl
  | _, _, .cons _ t => by rw [List.length_cons, List.length_cons, Reps.length t]
theorem Reps.append : ∀ {vs ws : List V} {ds es : List D}, Reps C G vs ds → Reps C G ws es → Reps C G (vs ++ ws) (ds ++ es)
  | _, _, _, _, .nil, s => s
  | _, _, _, _, .cons h t, s => .cons h (Reps.append t s)
theorem Reps.one {v : V} {d : D} (h : Rep C G v d) : Reps C G [v] [d] := .cons h .nil
theorem Reps.getL : ∀ {vs : List V} {ds : List D} {i : Nat} {v : V}, Reps C G vs ds → vs[i]? = some v → ∃ d, ds[i]? = some d ∧ Rep C G v d
  | _, _, _, _, .nil, e => by simp at e
  | _, _, 0, _, .cons h _, e => by
    simp at e
    subst e
    exact ⟨_, rfl, h⟩
  | _, _, i + 1, v, .cons _ t, e => by
    obtain ⟨d, h1, h2⟩ := Reps.getL (i := i) (v := v) t (by simpa using e)
    exact ⟨d, by simpa using h1, h2⟩
theorem Reps.getR : ∀ {vs : List V} {ds : List D} {i : Nat} {d : D}, Reps C G vs ds → ds[i]? = some d → ∃ v, vs[i]? = some v ∧ Rep C G v d
  | _, _, _, _, .nil, e => by simp at e
  | _, _, 0, _, .cons h _, e => by
    simp at e
    subst e
    exact ⟨_, rfl, h⟩
  | _, _, i + 1, d, .cons _ t, e => by
    obtain ⟨v, h1, h2⟩ := Reps.getR (i := i) (d := d) t (by simpa using e)
    exact ⟨v, by simpa using h1, h2⟩
theorem Reps.take : ∀ (n : Nat) {vs : List V} {ds : List D}, Reps C G vs ds → Reps C G (vs.take n) (ds.take n)
  | 0, _, _, _ => .nil
  | _ + 1, _, _, .nil => .nil
  | n + 1, _, _, .cons h t => .cons h (Reps.take n t)
theorem Reps.drop : ∀ (n : Nat) {vs : List V} {ds : List D}, Reps C G vs ds → Reps C G (vs.drop n) (ds.drop n)
  | 0, _, _, h => h
  | _ + 1, _, _, .nil => .nil
  | n + 1, _, _, .cons _ t => Reps.drop n t
theorem Reps.set : ∀ (i : Nat) {vs : List V} {ds : List D} {v : V} {d : D}, Reps C G vs ds → Rep C G v d → Reps C G (vs.set i v) (ds.set i d)
  | _, _, _, _, _, .nil, _ => .nil
  | 0, _, _, _, _, .cons _ t, h => .cons h t
  | i + 1, _, _, _, _, .cons q t, h => .cons q (Reps.set i t h)
theorem Reps.eraseIdx : ∀ (i : Nat) {vs : List V} {ds : List D}, Reps C G vs ds → Reps C G (vs.eraseIdx i) (ds.eraseIdx i)
  | _, _, _, .nil => .nil
  | 0, _, _, .cons _ t => t
  | i + 1, _, _, .cons h t => .cons h (Reps.eraseIdx i t)
theorem Reps.dropLast : ∀ {vs : List V} {ds : List D}, Reps C G vs ds → Reps C G vs.dropLast ds.dropLast
  | _, _, .nil => .nil
  | _, _, .cons _ .nil => .nil
  | _, _, .cons h (.cons h2 t) => .cons h (Reps.dropLast (.cons h2 t))
theorem Reps.reverse : ∀ {vs : List V} {ds : List D}, Reps C G vs ds → Reps C G vs.reverse ds.reverse
  | _, _, .nil => .nil
  | _, _, .cons h t => by
    rw [List.reverse_cons, List.reverse_cons]
    exact (Reps.reverse t).append (Reps.one h)
theorem Reps.flat {vs : List V} {ds : List D} (h : Reps C G vs ds) : ∀ n : Nat, Reps C G (List.replicate n vs).flatten (List.replicate n ds).flatten
  | 0 => .nil
  | n + 1 => by
    rw [List.replicate_succ, List.replicate_succ, List.flatten_cons, List.flatten_cons]
    exact h.append (Reps.flat h n)
theorem Reps.ints : ∀ ns : List Int, Reps C G (ns.map V.int) (ns.map D.int)
  | [] => .nil
  | n :: r => .cons (.int n) (Reps.ints r)
/-- ints are borne by ints -/
theorem Reps.of_ints : ∀ {vs : List V} {ns : List Int}, Reps C G vs (ns.map D.int) → vs = ns.map V.int
  | _, [], .nil => rfl
  | _, n :: r, .cons (.int _) t => by rw [Reps.of_ints t]; rfl
theorem Reps.of_bls : ∀ {vs : List V} {bs : List Bool}, Reps C G vs (bs.map D.bl) → vs = bs.map V.bl
  | _, [], .nil => rfl
  | _, n :: r, .cons (.bl _) t => by rw [Reps.of_bls t]; rfl
end

/-! ### the pen -/
structure Pen where
  cells : List Int
  at_ : Nat
  digits : Int
  count : Int
  fold : Int
def kCells : Key := .inr "cells"
def kAt : Key := .inr "at"
def kDigits : Key := .inr "digits"
def kCount : Key := .inr "count"
def kFold : Key := .inr "fold"
def penKvs (l : Addr) (p : Pen) : List (Key × V) := [(kCells, .ref l), (kAt, .int p.at_), (kDigits, .int p.digits), (kCount, .int p.count), (kFold, .int p.fold)]
def PenAt (C : Ctx) (G H : Hp) (p : Pen) : Prop := ∀ a, C.pa = some a → G a = none ∧ H a = some (.dK (penKvs C.pl p)) ∧ G C.pl = some (.lst (p.cells.map V.int))
theorem PenAt.none {C : Ctx} {G H : Hp} {p : Pen} (h : C.pa = Option.none) : PenAt C G H p := fun a e => by
  rw [h] at e
  cases e

/-- the tables of code objects; the place of sys.modules is taken -/
structure Tb (C : Ctx) (H : Hp) : Prop where
  tabs : LamX.Tabs C.T H
  sm : ∃ o u, H sysModules = some (.frz o u)
  co : ∀ f c q Gc, C.cl = some (f, c, q, Gc) → H c = some (LamX.CodeO c q)
theorem Tb.ext {C : Ctx} {H H' : Hp} (t : Tb C H) (e : ∀ b o, H b = some o → H' b = some o) : Tb C H' := ⟨t.tabs.ext e, t.sm.elim fun o h => h.elim fun u q => ⟨o, u, e _ _ q⟩, fun f c q Gc h => e _ _ (t.co f c q Gc h)⟩
/-! ### steps -/
/-- nothing but new objects -/
structure Alc (G H G' H' : Hp) : Prop where
  sub : Sub G' H'
  gro : Sub G G'
  new : ∀ a o, G' a = some o → G a = some o ∨ H a = none
  kee : Sub H H'
/-- new objects, and the pen and the tables turned -/
structure Ext (C : Ctx) (G H G' H' : Hp) : Prop where
  sub : Sub G' H'
  gro : Sub G G'
  new : ∀ a o, G' a = some o → G a = some o ∨ H a = none ∨ ∃ q, o = LamX.CodeO a q
  kee : ∀ a o, H a = some o → C.pa ≠ some a → (∀ ps, o ≠ .tbl ps) → H' a = some o
  fre : ∀ a, H' a = none → H a = none
  tab : Tb C H'
section
variable {C : Ctx} {G H G' H' G2 H2 : Hp}
theorem Alc.refl (h : Sub G H) : Alc G H G H := ⟨h, Sub.refl _, fun _ _ e => .inl e, Sub.refl _⟩
theorem free_of (k : Sub H H') {a : Addr} (h : H' a = none) : H a = none := by
  cases q : H a with
  | none => rfl
  | some o =>
    rw [k a o q] at h
    cases h
theorem Alc.trans (a : Alc G H G' H') (b : Alc G' H' G2 H2) : Alc G H G2 H2 :=
  ⟨b.sub, a.gro.trans b.gro, fun c o e => (b.new c o e).elim (fun q => a.new c o q) fun q => .inr (free_of a.kee q), a.kee.trans b.kee⟩
theorem Alc.ext (a : Alc G H G' H') (t : Tb C H) : Ext C G H G' H' := ⟨a.sub, a.gro, fun x o e => (a.new x o e).imp id .inl, fun c o e _ _ => a.kee c o e, fun _ h => free_of a.kee h, t.ext a.kee⟩
theorem PenAt.alc {p : Pen} (h : PenAt C G H p) (a : Alc G H G' H') : PenAt C G' H' p := fun x e => by
  obtain ⟨n, h1, h2⟩ := h x e
  refine ⟨?_, a.kee _ _ h1, a.gro _ _ h2⟩
  cases q : G' x with
  | none => rfl
  | some o =>
    rcases a.new x o q with z | z
    · rw [n] at z
      cases z
    · rw [h1] at z
      cases z
theorem Ext.refl (h : Sub G H) (t : Tb C H) : Ext C G H G H := ⟨h, Sub.refl _, fun _ _ e => .inl e, fun _ _ e _ _ => e, fun _ e => e, t⟩
theorem Ext.trans (a : Ext C G H G' H') (b : Ext C G' H' G2 H2) : Ext C G H G2 H2 :=
  ⟨b.sub, a.gro.trans b.gro, fun c o e => (b.new c o e).elim (fun q => a.new c o q) fun q => .inr (q.imp (a.fre c) id), fun c o e h1 h2 => b.kee c o (a.kee c o e h1 h2) h1 h2, fun c e => a.fre c (b.fre c e), b.tab⟩
/-- a new object, at once frozen -/
theorem Alc.put {p : Addr} {o : HO} (h : Sub G H) (hp : H p = none) : Alc G H (upd G p o) (upd H p o) := by
  have hg : G p = none := free_of h hp
  refine ⟨fun a u e => ?_, fun a u e => ?_, fun a u e => ?_, fun a u e => ?_⟩
  · by_cases ha : a = p
    · subst ha
      rw [upd_same] at e ⊢
      exact e
    · rw [upd_ne ha] at e ⊢
      exact h a u e
  · rw [upd_ne (ne_of_none e hg)]
    exact e
  · by_cases ha : a = p
    · subst ha
      exact .inr hp
    · rw [upd_ne ha] at e
      exact .inl e
  · rw [upd_ne (ne_of_none e hp)]
    exact e
/-- a new object, not frozen -/
theorem Alc.own {p : Addr} {o : HO} (h : Sub G H) (hp : H p = none) : Alc G H G (upd H p o) :=
  ⟨fun a u e => by rw [upd_ne (ne_of_none (h a u e) hp)]; exact h a u e, Sub.refl _, fun _ _ e => .inl e, fun a u e => by rw [upd_ne (ne_of_none e hp)]; exact e⟩
/-- a list of one's own is frozen -/
theorem sub_froz {p : Addr} {o : HO} (h : Sub G H) (hp : H p = some o) : Sub (upd G p o) H := fun a u e => by
  by_cases ha : a = p
  · subst ha
    rw [upd_same] at e
    rw [hp]
    exact e
  · rw [upd_ne ha] at e
    exact h a u e
theorem sub_upd {p : Addr} {o : HO} (hp : G p = none) : Sub G (upd G p o) := fun a u e => by
  rw [upd_ne (ne_of_none e hp)]
  exact e
end

/-! ### the frame's slots -/
/-- a slot: nothing is known, a value that never changes any more, a list of the frame's own -/
inductive Slot where
  | un
  | val (d : D)
  | own (ds : List D)
abbrev Env := List Slot
inductive SlotOk (C : Ctx) (G H : Hp) : Option V → Slot → Prop where
  | un (x : Option V) : SlotOk C G H x .un
  | val {v : V} {d : D} (r : Rep C G v d) : SlotOk C G H (some v) (.val d)
  | own {p : Addr} {vs : List V} {ds : List D} (h : H p = some (.lst vs)) (n : G p = none) (r : Reps C G vs ds) : SlotOk C G H (some (.ref p)) (.own ds)
/-- no table is frozen -/
def NT (C : Ctx) (G : Hp) : Prop := ∀ p ∈ C.T, G p.1 = none
theorem Ext.nt {C : Ctx} {G H G' H' : Hp} (a : Ext C G H G' H') (t : Tb C H) (n : NT C G) : NT C G' := fun p hp => by
  cases q : G' p.1 with
  | none => rfl
  | some o =>
    rcases a.new _ _ q with z | z | ⟨c, z⟩
    · rw [n p hp] at z
      cases z
    · obtain ⟨_, k, _⟩ := t.tabs p hp
      rw [z] at k
      cases k
    · obtain ⟨_, k, _⟩ := a.tab.tabs p hp
      rw [a.sub _ _ q, z] at k
      cases k
/-- the state of a frame: what is frozen, what is tracked, the slots, the pen -/
structure LOk (C : Ctx) (G H : Hp) (σ : St) (env : Env) (p : Pen) : Prop where
  sub : Sub G H
  tab : Tb C H
  pen : PenAt C G H p
  len : σ.length = env.length
  slot : ∀ (i : Nat) (x : Option V) (s : Slot), σ[i]? = some x → env[i]? = some s → SlotOk C G H x s
  dis : ∀ (i j : Nat) (ds es : List D) (a : Addr), env[i]? = some (.own ds) → env[j]? = some (.own es) → σ[i]? = some (some (.ref a)) → σ[j]? = some (some (.ref a)) → i = j
  nt : NT C G
section
variable {C : Ctx} {G H G' H' : Hp} {σ : St} {env : Env} {p p' : Pen}
theorem SlotOk.step {x : Option V} {s : Slot} (h : SlotOk C G H x s) (a : Ext C G H G' H') (hp : PenAt C G H p) : SlotOk C G' H' x s := by
  cases h with
  | un => exact .un _
  | val r => exact .val (r.mono a.gro)
  | @own q vs ds h n r =>
    refine .own (a.kee _ _ h (fun e => ?_) (fun ps z => by cases z)) ?_ (r.mono a.gro)
    · obtain ⟨_, h1, _⟩ := hp q e
      rw [h] at h1
      cases h1
    · cases z : G' q with
      | none => rfl
      | some o =>
        rcases a.new q o z with y | y | ⟨c, y⟩
        · rw [n] at y
          cases y
        · rw [h] at y
          cases y
        · have k := a.kee _ _ h (fun e => by
            obtain ⟨_, h1, _⟩ := hp q e
            rw [h] at h1
            cases h1) (fun ps z => by cases z)
          rw [a.sub _ _ z, y] at k
          cases k
theorem LOk.step (L : LOk C G H σ env p) (a : Ext C G H G' H') (hp : PenAt C G' H' p') : LOk C G' H' σ env p' :=
  ⟨a.sub, a.tab, hp, L.len, fun i x s h1 h2 => (L.slot i x s h1 h2).step a L.pen, L.dis, a.nt L.tab L.nt⟩
theorem LOk.alc (L : LOk C G H σ env p) (a : Alc G H G' H') : LOk C G' H' σ env p := L.step (a.ext L.tab) (L.pen.alc a)
theorem LOk.ext (L : LOk C G H σ env p) (a : Alc G H G' H') : Ext C G H G' H' := a.ext L.tab
/-- the value at a slot -/
theorem LOk.val (L : LOk C G H σ env p) {i : Nat} {d : D} (e : env[i]? = some (.val d)) : ∃ v, σ[i]? = some (some v) ∧ Rep C G v d := by
  have hi : i < σ.length := by
    rw [L.len]
    exact (List.getElem?_eq_some_iff.mp e).1
  have q := L.slot i _ _ (List.getElem?_eq_getElem hi) e
  cases z : σ[i] with
  | none =>
    rw [z] at q
    cases q
  | some v =>
    rw [z] at q
    cases q with
    | val r => exact ⟨v, by rw [List.getElem?_eq_getElem hi, z], r⟩
theorem LOk.own (L : LOk C G H σ env p) {i : Nat} {ds : List D} (e : env[i]? = some (.own ds)) : ∃ a vs, σ[i]? = some (some (.ref a)) ∧ H a = some (.lst vs) ∧ G a = none ∧ Reps C G vs ds := by
  have hi : i < σ.length := by
    rw [L.len]
    exact (List.getElem?_eq_some_iff.mp e).1
  have q := L.slot i _ _ (List.getElem?_eq_getElem hi) e
  cases z : σ[i] with
  | none =>
    rw [z] at q
    cases q
  | some v =>
    rw [z] at q
    cases q with
    | @own a vs _ h n r => exact ⟨a, vs, by rw [List.getElem?_eq_getElem hi, z], h, n, r⟩
end
end Pu
end

section
set_option maxHeartbeats 2000000
namespace Pu
open PySem PySem.Spec PyProof.Rows L2

/-! ### what a mirror hands back -/
/-- an error: its class's name, its fields (the last stored first) -/
structure Err where
  c : Str
  fs : List (Str × D)
inductive Out (α : Type) where
  | ok (a : α) (p : Pen)
  | err (e : Err) (p : Pen)
  | bad
def Out.bind {α β : Type} (o : Out α) (k : α → Pen → Out β) : Out β := match o with
  | .ok a p => k a p
  | .err e p => .err e p
  | .bad => .bad
def OutP {α : Type} (o : Out α) (f : α → Pen → Prop) (g : Err → Pen → Prop) : Prop := match o with
  | .ok a p => f a p
  | .err e p => g e p
  | .bad => False
theorem OutP.bind {α β : Type} {o : Out α} {k : α → Pen → Out β} {f : β → Pen → Prop} {g : Err → Pen → Prop} (h : OutP (o.bind k) f g) : OutP o (fun a p => OutP (k a p) f g) g := by
  cases o <;> exact h
theorem OutP.mk {α β : Type} {o : Out α} {k : α → Pen → Out β} {f : β → Pen → Prop} {g : Err → Pen → Prop} (h : OutP o (fun a p => OutP (k a p) f g) g) : OutP (o.bind k) f g := by
  cases o <;> exact h
theorem OutP.imp {α : Type} {o : Out α} {f f' : α → Pen → Prop} {g g' : Err → Pen → Prop} (h : OutP o f g) (hf : ∀ a p, f a p → f' a p) (hg : ∀ e p, g e p → g' e p) : OutP o f' g' := by
  cases o
  · exact hf _ _ h
  · exact hg _ _ h
  · exact h
abbrev EM := Env → Pen → Out D
abbrev TM := Env → Pen → Out Bool
abbrev AM := Env → Pen → Out (List D)

/-- an error as it lies behind a call: its class, its own dict -/
def ErrRep (C : Ctx) (G H : Hp) (cls : Value) (dd : Option Addr) (e : Err) : Prop := ∃ cA, C.mg e.c = some (.ref cA) ∧ cls = .ref cA ∧
  ((e.fs = [] ∧ dd = none) ∨ ∃ a fvs, dd = some a ∧ G a = some (.xd fvs) ∧ RepF C G fvs e.fs)
/-- what is wanted of an error -/
def ErrP (C : Ctx) (W : WX) (G H : Hp) (σ : St) (e : Err) (q : Pen) : Prop := ∀ cls dd G' H', Ext C G H G' H' → PenAt C G' H' q → ErrRep C G' H' cls dd e → W cls dd σ H'
theorem ErrP.step {C : Ctx} {W : WX} {G H G' H' : Hp} {σ : St} {e : Err} {q : Pen} (h : ErrP C W G H σ e q) (x : Ext C G H G' H') : ErrP C W G' H' σ e q := fun cls dd G2 H2 y p r => h cls dd G2 H2 (x.trans y) p r

/-- a value that is borne by what is frozen, or is a list of the frame's own -/
def BRep (C : Ctx) (G : Hp) (σ : St) (env : Env) (v : V) (d : D) : Prop := Rep C G v d ∨ ∃ (i : Nat) (ds : List D) (a : Addr), v = .ref a ∧ d = .lst ds ∧ σ[i]? = some (some (.ref a)) ∧ env[i]? = some (.own ds)
inductive BReps (C : Ctx) (G : Hp) (σ : St) (env : Env) : List V → List D → Prop where
  | nil : BReps C G σ env [] []
  | cons {v : V} {d : D} {vs : List V} {ds : List D} (h : BRep C G σ env v d) (t : BReps C G σ env vs ds) : BReps C G σ env (v :: vs) (d :: ds)
section
variable {C : Ctx} {G H G' H' : Hp} {σ : St} {env : Env} {p : Pen} {v : V}
theorem BRep.mono {d : D} (h : BRep C G σ env v d) (s : Sub G G') : BRep C G' σ env v d := h.elim (fun r => .inl (r.mono s)) .inr
theorem BReps.mono (s : Sub G G') : ∀ {vs : List V} {ds : List D}, BReps C G σ env vs ds → BReps C G' σ env vs ds
  | _, _, .nil => .nil
  | _, _, .cons h t => .cons (h.mono s) (BReps.mono s t)
theorem BReps.of : ∀ {vs : List V} {ds : List D}, Reps C G vs ds → BReps C G σ env vs ds
  | _, _, .nil => .nil
  | _, _, .cons h t => .cons (.inl h) (BReps.of t)
theorem BRep.lst {ds : List D} (h : BRep C G σ env v (.lst ds)) (L : LOk C G H σ env p) : ∃ a vs, v = .ref a ∧ H a = some (.lst vs) ∧ Reps C G vs ds := by
  rcases h with h | ⟨i, es, a, e1, e2, e3, e4⟩
  · cases h with
    | lst h r => exact ⟨_, _, rfl, L.sub _ _ h, r⟩
  · cases e2
    obtain ⟨b, vs, h1, h2, _, h4⟩ := L.own e4
    rw [e3] at h1
    cases h1
    exact ⟨a, vs, e1, h2, h4⟩
theorem BRep.tup {ds : List D} (h : BRep C G σ env v (.tup ds)) : ∃ a vs, v = .ref a ∧ G a = some (.tup vs) ∧ Reps C G vs ds := by
  rcases h with h | ⟨i, es, a, e1, e2, e3, e4⟩
  · cases h with
    | tup h r => exact ⟨_, _, rfl, h, r⟩
  · cases e2
theorem BRep.int {i : Int} (h : BRep C G σ env v (.int i)) : v = .int i := by
  rcases h with h | ⟨_, _, _, _, e2, _⟩
  · cases h
    rfl
  · cases e2
theorem BRep.bl {b : Bool} (h : BRep C G σ env v (.bl b)) : v = .bl b := by
  rcases h with h | ⟨_, _, _, _, e2, _⟩
  · cases h
    rfl
  · cases e2
theorem BRep.str {x : Str} (h : BRep C G σ env v (.str x)) : v = .str x := by
  rcases h with h | ⟨_, _, _, _, e2, _⟩
  · cases h
    rfl
  · cases e2
theorem BRep.non (h : BRep C G σ env v .non) : v = .non := by
  rcases h with h | ⟨_, _, _, _, e2, _⟩
  · cases h
    rfl
  · cases e2
/-- a list, a tuple: its items -/
theorem BRep.seq {d : D} {ds : List D} (h : BRep C G σ env v d) (L : LOk C G H σ env p) (e : d = .lst ds ∨ d = .tup ds) : ∃ a vs, v = .ref a ∧ (H a = some (.lst vs) ∨ H a = some (.tup vs)) ∧ Reps C G vs ds := by
  rcases e with e | e
  · subst e
    obtain ⟨a, vs, h1, h2, h3⟩ := h.lst L
    exact ⟨a, vs, h1, .inl h2, h3⟩
  · subst e
    obtain ⟨a, vs, h1, h2, h3⟩ := h.tup
    exact ⟨a, vs, h1, .inr (L.sub _ _ h2), h3⟩
theorem BReps.length : ∀ {vs : List V} {ds : List D}, BReps C G σ env vs ds → vs.length = ds.length
  | _, _, .nil => rfl
  | _, _, .cons _ t => by rw [List.length_cons, List.length_cons, BReps.length t]
end

/-! ### readings by a mirror -/
/-- a frozen value -/
def rE (C : Ctx) (W : WX) (m : EM) : TE := fun σ H Q => ∃ G env p, LOk C G H σ env p ∧
  OutP (m env p) (fun d q => ∀ v G' H', Ext C G H G' H' → PenAt C G' H' q → Rep C G' v d → Q v H') (ErrP C W G H σ)
/-- a frozen value, or a list of the frame's own -/
def rB (C : Ctx) (W : WX) (m : EM) : TE := fun σ H Q => ∃ G env p, LOk C G H σ env p ∧
  OutP (m env p) (fun d q => ∀ v G' H', Ext C G H G' H' → PenAt C G' H' q → BRep C G' σ env v d → Q v H') (ErrP C W G H σ)
/-- a list just made -/
def rF (C : Ctx) (W : WX) (m : AM) : TE := fun σ H Q => ∃ G env p, LOk C G H σ env p ∧
  OutP (m env p) (fun ds q => ∀ l vs G' H', Ext C G H G' H' → PenAt C G' H' q → H l = none → G' l = none → H' l = some (.lst vs) → Reps C G' vs ds → Q (.ref l) H') (ErrP C W G H σ)
def rT (C : Ctx) (W : WX) (m : TM) : TT := fun σ H Q => ∃ G env p, LOk C G H σ env p ∧
  OutP (m env p) (fun b q => ∀ G' H', Ext C G H G' H' → PenAt C G' H' q → Q b H') (ErrP C W G H σ)
def rA (C : Ctx) (W : WX) (m : AM) : TA := fun σ H Q => ∃ G env p, LOk C G H σ env p ∧
  OutP (m env p) (fun ds q => ∀ vs G' H', Ext C G H G' H' → PenAt C G' H' q → Reps C G' vs ds → Q vs H') (ErrP C W G H σ)
def rAB (C : Ctx) (W : WX) (m : AM) : TA := fun σ H Q => ∃ G env p, LOk C G H σ env p ∧
  OutP (m env p) (fun ds q => ∀ vs G' H', Ext C G H G' H' → PenAt C G' H' q → BReps C G' σ env vs ds → Q vs H') (ErrP C W G H σ)

section
variable {X : Cx} {C : Ctx} {W : WX}
theorem _root_.L2.PE.of {e : Expr} {t t' : TE} (h : PE X e t) (i : ∀ σ H Q, t' σ H Q → t σ H Q) : PE X e t' := ⟨fun pins s σ H Q I z => h.run pins s σ H Q I (i _ _ _ z)⟩
theorem _root_.L2.PT.of {e : Expr} {t t' : TT} (h : PT X e t) (i : ∀ σ H Q, t' σ H Q → t σ H Q) : PT X e t' := ⟨fun pins s σ H Q I z => h.run pins s σ H Q I (i _ _ _ z)⟩
theorem _root_.L2.PW.of {e : Expr} {t t' : TT} (h : PW X e t) (i : ∀ σ H Q, t' σ H Q → t σ H Q) : PW X e t' := ⟨fun wh pins s σ H Q I z => h.run wh pins s σ H Q I (i _ _ _ z)⟩
theorem _root_.L2.PA.of {es : List Expr} {t t' : TA} (h : PA X es t) (i : ∀ σ H Q, t' σ H Q → t σ H Q) : PA X es t' := ⟨fun pos pins s σ H Q I z => h.run pos pins s σ H Q I (i _ _ _ z)⟩
theorem _root_.L2.PS.of {s : Stmt} {t t' : TS} (h : PS X s t) (i : ∀ D σ H, t' D σ H → t D σ H) : PS X s t' := ⟨fun pins s σ H D I z => h.run pins s σ H D I (i _ _ _ z)⟩
theorem _root_.L2.PSs.of {s : List Stmt} {t t' : TS} (h : PSs X s t) (i : ∀ D σ H, t' D σ H → t D σ H) : PSs X s t' := ⟨fun pins s σ H D I z => h.run pins s σ H D I (i _ _ _ z)⟩

/-- frozen is borrowable -/
theorem pb {e : Expr} {m : EM} (h : PE X e (rE C W m)) : PE X e (rB C W m) := h.of fun σ H Q ⟨G, env, p, L, o⟩ => ⟨G, env, p, L, o.imp (fun d q z v G' H' x y r => z v G' H' x y (.inl r)) fun _ _ z => z⟩
/-- a list just made, frozen -/
def mFr (m : AM) : EM := fun env p => (m env p).bind fun ds q => .ok (.lst ds) q
theorem pf {e : Expr} {m : AM} (h : PE X e (rF C W m)) : PE X e (rE C W (mFr m)) := h.of fun σ H Q ⟨G, env, p, L, o⟩ => ⟨G, env, p, L, o.bind.imp (fun ds q z l vs G' H' x y hl hg hh r => by
  have s2 : Sub (upd G' l (.lst vs)) H' := sub_froz x.sub hh
  refine z (.ref l) (upd G' l (.lst vs)) H' ⟨s2, x.gro.trans (sub_upd hg), fun a o e => ?_, x.kee, x.fre, x.tab⟩ (fun a ea => ?_) (.lst upd_same (r.mono (sub_upd hg)))
  · by_cases ha : a = l
    · subst ha
      exact .inr (.inl hl)
    · rw [upd_ne ha] at e
      exact x.new a o e
  · obtain ⟨n, h1, h2⟩ := y a ea
    have na : a ≠ l := ne_of h1 hh (by intro w; cases w)
    exact ⟨by rw [upd_ne na]; exact n, h1, sub_upd hg _ _ h2⟩) fun _ _ z => z⟩
theorem pfb {e : Expr} {m : AM} (h : PE X e (rF C W m)) : PE X e (rB C W (mFr m)) := pb (pf h)

/-! ### names, constants -/
def mVal (i : Nat) : EM := fun env p => match env[i]? with
  | some (.val d) => .ok d p
  | _ => .bad
theorem pm_val (i : Nat) {x : Str} {pos : Pos} (hN : X.N[i]? = some x := by rfl) (hv : Vis X.env.scope x := by first | exact Or.inl rfl | exact Or.inr (Or.inl rfl) | exact Or.inr (Or.inr rfl)) (hd : (x == ("__debug__" : Str)) = false := by decide)
    (hcd : (x == ("__classdict__" : Str)) = false := by decide) : PE X (.Name x pos) (rE C W (mVal i)) := (pe_var (i := i) hN hv hd hcd).of fun σ H Q ⟨G, env, p, L, o⟩ => by
  unfold mVal at o
  split at o
  · rename_i d e
    obtain ⟨v, h1, r⟩ := L.val e
    exact ⟨v, h1, o v G H (Ext.refl L.sub L.tab) L.pen r⟩
  · exact o.elim
def mOwn (i : Nat) : EM := fun env p => match env[i]? with
  | some (.own ds) => .ok (.lst ds) p
  | _ => .bad
theorem pm_own (i : Nat) {x : Str} {pos : Pos} (hN : X.N[i]? = some x := by rfl) (hv : Vis X.env.scope x := by first | exact Or.inl rfl | exact Or.inr (Or.inl rfl) | exact Or.inr (Or.inr rfl)) (hd : (x == ("__debug__" : Str)) = false := by decide)
    (hcd : (x == ("__classdict__" : Str)) = false := by decide) : PE X (.Name x pos) (rB C W (mOwn i)) := (pe_var (i := i) hN hv hd hcd).of fun σ H Q ⟨G, env, p, L, o⟩ => by
  unfold mOwn at o
  split at o
  · rename_i ds e
    obtain ⟨a, vs, h1, h2, h3, r⟩ := L.own e
    exact ⟨_, h1, o _ G H (Ext.refl L.sub L.tab) L.pen (.inr ⟨i, ds, a, rfl, rfl, h1, e⟩)⟩
  · exact o.elim
def mC (d : D) : EM := fun _ p => .ok d p
theorem rE_const {m : EM} {v : V} {d : D} (hm : m = mC d) (r : ∀ G, Rep C G v d) : ∀ σ H Q, rE C W m σ H Q → tC v σ H Q := fun σ H Q ⟨G, env, p, L, o⟩ => by
  subst hm
  exact o v G H (Ext.refl L.sub L.tab) L.pen (r G)
theorem pm_int {i j pos} : PE X (.Constant (.int i) j pos) (rE C W (mC (.int i))) := pe_int.of (rE_const rfl fun _ => .int _)
theorem pm_bl {b j pos} : PE X (.Constant (.bool b) j pos) (rE C W (mC (.bl b))) := pe_bl.of (rE_const rfl fun _ => .bl _)
theorem pm_non {j pos} : PE X (.Constant .none j pos) (rE C W (mC .non)) := pe_non.of (rE_const rfl fun _ => .non)
theorem pm_str {x j pos} : PE X (.Constant (.str x) j pos) (rE C W (mC (.str x))) := pe_str.of (rE_const rfl fun _ => .str _)
/-- a module's int -/
theorem pm_gint {x : Str} {i : Int} {u : Value} {pos : Pos} (hm : X.mg x = some u) (r : RelV (.int i) u) (hg : Gl X x := by rfl) (hd : (x == ("__debug__" : Str)) = false := by decide) : PE X (.Name x pos) (rE C W (mC (.int i))) := (pe_glob hg hm r hd).of (rE_const rfl fun _ => .int _)
/-- a def of the module as a value -/
theorem pm_gfn {x : Str} {f : Addr} {pos : Pos} (hc : C.mg = X.mg) (hm : X.mg x = some (.ref f)) (hg : Gl X x := by rfl) (hd : (x == ("__debug__" : Str)) = false := by decide) : PE X (.Name x pos) (rE C W (mC (.fn x))) := (pe_glob (v := .ref f) hg hm rfl hd).of (rE_const rfl fun _ => .fn (by rw [hc]; exact hm))
end
end Pu
end

section
set_option maxHeartbeats 2000000
namespace Pu
open PySem PySem.Spec PyProof.Rows L2

/-! ### operators -/
theorem op_or {X : Cx} {f : Value → Value → Sem Value} {r1 r2 : R2} (h1 : OpR X f r1) (h2 : OpR X f r2) : OpR X f (fun x y H Q => r1 x y H Q ∨ r2 x y H Q) := by
  intro pins s σ H x y v u Q I rx ry h
  rcases h with h | h
  · exact h1 pins s σ H x y v u Q I rx ry h
  · exact h2 pins s σ H x y v u Q I rx ry h
/-- a rule's reading does what k says -/
def OpOk (C : Ctx) (r : R2) (k : D → D → Option D) : Prop := ∀ (G H : Hp) (σ : St) (env : Env) (p : Pen) (v w : V) (d e z : D) (Q : VK), LOk C G H σ env p → BRep C G σ env v d → BRep C G σ env w e → k d e = some z →
  (∀ x G' H', Alc G H G' H' → Rep C G' x z → Q x H') → r v w H Q
/-- the same for a list just made -/
def FOpOk (C : Ctx) (r : R2) (k : D → D → Option (List D)) : Prop := ∀ (G H : Hp) (σ : St) (env : Env) (p : Pen) (v w : V) (d e : D) (z : List D) (Q : VK), LOk C G H σ env p → BRep C G σ env v d → BRep C G σ env w e → k d e = some z →
  (∀ l vs, H l = none → Reps C G vs z → Q (.ref l) (upd H l (.lst vs))) → r v w H Q
def mOp (k : D → D → Option D) (ma mb : EM) : EM := fun env p => (ma env p).bind fun d p1 => (mb env p1).bind fun e p2 => match k d e with
  | some z => .ok z p2
  | none => .bad
def mFOp (k : D → D → Option (List D)) (ma mb : EM) : AM := fun env p => (ma env p).bind fun d p1 => (mb env p1).bind fun e p2 => match k d e with
  | some z => .ok z p2
  | none => .bad
section
variable {X : Cx} {C : Ctx} {W : WX} {a b : Expr} {ma mb : EM}
theorem rd_op {r : R2} {k : D → D → Option D} (hk : OpOk C r k) {σ : St} {H : Hp} {Q : VK} (h : rE C W (mOp k ma mb) σ H Q) : tOp r (rB C W ma) (rB C W mb) σ H Q := by
  obtain ⟨G, env, p, L, o⟩ := h
  refine ⟨G, env, p, L, o.bind.imp (fun d q z v G1 H1 x1 y1 r1 => ?_) fun _ _ z => z⟩
  refine ⟨G1, env, q, L.step x1 y1, z.bind.imp (fun e q2 z2 w G2 H2 x2 y2 r2 => ?_) fun _ _ z => z.step x1⟩
  have L2 := (L.step x1 y1).step x2 y2
  cases ek : k d e with
  | none =>
    rw [ek] at z2
    exact z2.elim
  | some u =>
    rw [ek] at z2
    exact hk G2 H2 σ env q2 v w d e u Q L2 (r1.mono x2.gro) r2 ek fun x G' H' al rx => z2 x G' H' ((x1.trans x2).trans (L2.ext al)) (y2.alc al) rx
theorem rd_fop {r : R2} {k : D → D → Option (List D)} (hk : FOpOk C r k) {σ : St} {H : Hp} {Q : VK} (h : rF C W (mFOp k ma mb) σ H Q) : tOp r (rB C W ma) (rB C W mb) σ H Q := by
  obtain ⟨G, env, p, L, o⟩ := h
  refine ⟨G, env, p, L, o.bind.imp (fun d q z v G1 H1 x1 y1 r1 => ?_) fun _ _ z => z⟩
  refine ⟨G1, env, q, L.step x1 y1, z.bind.imp (fun e q2 z2 w G2 H2 x2 y2 r2 => ?_) fun _ _ z => z.step x1⟩
  have L2 := (L.step x1 y1).step x2 y2
  cases ek : k d e with
  | none =>
    rw [ek] at z2
    exact z2.elim
  | some u =>
    rw [ek] at z2
    refine hk G2 H2 σ env q2 v w d e u Q L2 (r1.mono x2.gro) r2 ek fun l vs hl rv => ?_
    have al : Alc G2 H2 G2 (upd H2 l (.lst vs)) := Alc.own L2.sub hl
    exact z2 l vs G2 _ ((x1.trans x2).trans (L2.ext al)) (y2.alc al) ((x1.trans x2).fre _ hl) (free_of L2.sub hl) upd_same rv
theorem pm_op {op : Operator} {r : R2} {k : D → D → Option D} {pos : Pos} (hk : OpOk C r k) (ho : OpR X (binaryOp op) r) (ha : PE X a (rB C W ma)) (hb : PE X b (rB C W mb)) : PE X (.BinOp a op b pos) (rE C W (mOp k ma mb)) :=
  (pe_op ho ha hb).of fun _ _ _ h => rd_op hk h
theorem pm_fop {op : Operator} {r : R2} {k : D → D → Option (List D)} {pos : Pos} (hk : FOpOk C r k) (ho : OpR X (binaryOp op) r) (ha : PE X a (rB C W ma)) (hb : PE X b (rB C W mb)) : PE X (.BinOp a op b pos) (rF C W (mFOp k ma mb)) :=
  (pe_op ho ha hb).of fun _ _ _ h => rd_fop hk h
theorem pm_cmp {op : CmpOp} {r : R2} {k : D → D → Option D} {pos : Pos} (hk : OpOk C r k) (ho : OpR X (compareOp op) r) (ha : PE X a (rB C W ma)) (hb : PE X b (rB C W mb)) (hm : behindInMarks op b = false) : PE X (.Compare a [op] [b] pos) (rE C W (mOp k ma mb)) :=
  (pe_cmpR ho ha hb hm).of fun _ _ _ h => rd_op hk h
/-- a bool as a test -/
def mT (m : EM) : TM := fun env p => (m env p).bind fun d q => match d with
  | .bl b => .ok b q
  | _ => .bad
theorem rd_test {m : EM} {σ : St} {H : Hp} {Q : Bool → Hp → Prop} (h : rT C W (mT m) σ H Q) : rE C W m σ H (fun x H' => ∃ k, x = .bl k ∧ Q k H') := by
  obtain ⟨G, env, p, L, o⟩ := h
  refine ⟨G, env, p, L, o.bind.imp (fun d q z v G1 H1 x1 y1 r1 => ?_) fun _ _ z => z⟩
  cases d with
  | bl b =>
    cases r1
    exact ⟨b, rfl, z G1 H1 x1 y1⟩
  | _ => exact z.elim
theorem tm_cmp {op : CmpOp} {r : R2} {k : D → D → Option D} {pos : Pos} (hk : OpOk C r k) (ho : OpR X (compareOp op) r) (ha : PE X a (rB C W ma)) (hb : PE X b (rB C W mb)) (hm : behindInMarks op b = false) : PT X (.Compare a [op] [b] pos) (rT C W (mT (mOp k ma mb))) :=
  (pt_cmpR ho ha hb hm).of fun _ _ _ h => rd_op hk (rd_test h)
/-- a value that is a bool -/
theorem tm_val {e : Expr} {m : EM} (h : PE X e (rE C W m)) (he : ∀ whole, isTrue e X.env whole = (do let v ← whole; standAt e.pos; holding [v] (truthy v)) := by intro _; rfl) : PT X e (rT C W (mT m)) :=
  (pt_val h he).of fun _ _ _ h => rd_test h
end

/-! ### which operators there are -/
def kInt (g : Int → Int → Option D) : D → D → Option D
  | .int i, .int j => g i j
  | _, _ => none
theorem ok_int {C : Ctx} {c : Int → Int → Prop} {f : Int → Int → V} {g : Int → Int → Option D} (h : ∀ i j z, g i j = some z → c i j ∧ ∀ G, Rep C G (f i j) z) : OpOk C (rI c f) (kInt g) := by
  intro G H σ env p v w d e z Q L rv rw ek q
  unfold kInt at ek
  split at ek
  · rename_i i j
    rw [rv.int, rw.int]
    obtain ⟨h1, h2⟩ := h i j z ek
    exact ⟨i, j, rfl, rfl, h1, q _ G H (Alc.refl L.sub) (h2 G)⟩
  · cases ek
theorem ok_int0 {C : Ctx} {f : Int → Int → V} {g : Int → Int → D} (h : ∀ i j G, Rep C G (f i j) (g i j)) : OpOk C (rI0 f) (kInt fun i j => some (g i j)) := by
  intro G H σ env p v w d e z Q L rv rw ek q
  unfold kInt at ek
  split at ek
  · rename_i i j
    rw [rv.int, rw.int]
    cases ek
    exact ⟨i, j, rfl, rfl, q _ G H (Alc.refl L.sub) (h i j G)⟩
  · cases ek
abbrev kSub : D → D → Option D := kInt fun i j => some (.int (i - j))
abbrev kLt : D → D → Option D := kInt fun i j => some (.bl (decide (i < j)))
abbrev kLe : D → D → Option D := kInt fun i j => some (.bl (decide (i ≤ j)))
abbrev kGt : D → D → Option D := kInt fun i j => some (.bl (decide (j < i)))
abbrev kGe : D → D → Option D := kInt fun i j => some (.bl (decide (j ≤ i)))
theorem ok_sub {C : Ctx} : OpOk C (rI0 fun i j => .int (i - j)) kSub := ok_int0 (f := fun i j => V.int (i - j)) (g := fun i j => D.int (i - j)) fun _ _ _ => .int _
theorem ok_lt {C : Ctx} : OpOk C (rI0 fun i j => .bl (decide (i < j))) kLt := ok_int0 (f := fun i j => V.bl (decide (i < j))) (g := fun i j => D.bl (decide (i < j))) fun _ _ _ => .bl _
theorem ok_le {C : Ctx} : OpOk C (rI0 fun i j => .bl (decide (i ≤ j))) kLe := ok_int0 (f := fun i j => V.bl (decide (i ≤ j))) (g := fun i j => D.bl (decide (i ≤ j))) fun _ _ _ => .bl _
theorem ok_gt {C : Ctx} : OpOk C (rI0 fun i j => .bl (decide (j < i))) kGt := ok_int0 (f := fun i j => V.bl (decide (j < i))) (g := fun i j => D.bl (decide (j < i))) fun _ _ _ => .bl _
theorem ok_ge {C : Ctx} : OpOk C (rI0 fun i j => .bl (decide (j ≤ i))) kGe := ok_int0 (f := fun i j => V.bl (decide (j ≤ i))) (g := fun i j => D.bl (decide (j ≤ i))) fun _ _ _ => .bl _
/-- products: one side below 2^64, or together below a million bits -/
def gMul (i j : Int) : Bool := decide (i.natAbs < 2 ^ 64) || (decide (j.natAbs < 2 ^ 64) || decide (i.natAbs.log2 + j.natAbs.log2 < 1000000))
def cMul (i j : Int) : Prop := gMul i j = true
theorem op_mulA {X : Cx} : OpR X (binaryOp .Mult) (rI cMul fun i j => .int (i * j)) := by
  intro pins s σ H x y v u Q I rx ry h
  obtain ⟨i, j, e1, e2, c, q⟩ := h
  have c' : gMul i j = true := c
  unfold gMul at c'
  rw [Bool.or_eq_true, Bool.or_eq_true, decide_eq_true_eq, decide_eq_true_eq, decide_eq_true_eq] at c'
  rcases c' with c' | c' | c'
  · exact op_mul pins s σ H x y v u Q I rx ry ⟨i, j, e1, e2, .inl (by omega), q⟩
  · exact op_mul pins s σ H x y v u Q I rx ry ⟨i, j, e1, e2, .inr (by omega), q⟩
  · exact op_mulW pins s σ H x y v u Q I rx ry ⟨i, j, e1, e2, c', q⟩
def kMulI (i j : Int) : Option D := if gMul i j = true then some (.int (i * j)) else none
theorem ok_mulI {C : Ctx} : OpOk C (rI cMul fun i j => .int (i * j)) (kInt kMulI) := ok_int fun i j z h => by
  unfold kMulI at h
  split at h
  · rename_i c
    cases h
    exact ⟨c, fun _ => .int _⟩
  · cases h
/-- floor division -/
def gDiv (j : Int) : Bool := decide (j ≠ 0) && (decide (j.natAbs < 1073741824) || (decide (0 < j) && decide (j.natAbs.log2 < 9000)))
def cDiv (_ j : Int) : Prop := gDiv j = true
theorem op_divA {X : Cx} : OpR X (binaryOp .FloorDiv) (rI cDiv fun i j => .int (i.fdiv j)) := by
  intro pins s σ H x y v u Q I rx ry h
  obtain ⟨i, j, e1, e2, c, q⟩ := h
  have c' : gDiv j = true := c
  unfold gDiv at c'
  rw [Bool.and_eq_true, Bool.or_eq_true, Bool.and_eq_true, decide_eq_true_eq, decide_eq_true_eq, decide_eq_true_eq, decide_eq_true_eq] at c'
  obtain ⟨h0, c' | ⟨h1, h2⟩⟩ := c'
  · exact op_fdivN pins s σ H x y v u Q I rx ry ⟨i, j, e1, e2, ⟨h0, c'⟩, q⟩
  · refine op_fdivW pins s σ H x y v u Q I rx ry ⟨i, j, e1, e2, ⟨h1, h2⟩, ?_⟩
    have e : i.fdiv j = i / j := Int.fdiv_eq_ediv_of_nonneg i (by omega)
    show Q (.int (i / j)) H
    rw [← e]
    exact q
def kDivI (i j : Int) : Option D := if gDiv j = true then some (.int (i.fdiv j)) else none
abbrev kDiv : D → D → Option D := kInt kDivI
theorem ok_div {C : Ctx} : OpOk C (rI cDiv fun i j => .int (i.fdiv j)) kDiv := ok_int fun i j z h => by
  unfold kDivI at h
  split at h
  · rename_i c
    cases h
    exact ⟨c, fun _ => .int _⟩
  · cases h
def kModI (i j : Int) : Option D := if j ≠ 0 then some (.int (i.fmod j)) else none
abbrev kMod : D → D → Option D := kInt kModI
theorem ok_mod {C : Ctx} : OpOk C (rI (fun _ j => j ≠ 0) fun i j => .int (i.fmod j)) kMod := ok_int fun i j z h => by
  unfold kModI at h
  split at h
  · rename_i c
    cases h
    exact ⟨c, fun _ => .int _⟩
  · cases h
def kPowI (i j : Int) : Option D := if 0 ≤ j ∧ j ≤ 1000000 ∧ i.natAbs < 2 ^ 64 then some (.int (i ^ j.toNat)) else none
abbrev kPow : D → D → Option D := kInt kPowI
theorem ok_pow {C : Ctx} : OpOk C (rI CPow fun i j => .int (i ^ j.toNat)) kPow := ok_int fun i j z h => by
  unfold kPowI at h
  split at h
  · rename_i c
    cases h
    exact ⟨c, fun _ => .int _⟩
  · cases h
/-- sums: ints, texts, tuples, lists (a new list, frozen at once) -/
def kAdd : D → D → Option D
  | .int i, .int j => some (.int (i + j))
  | .str x, .str y => if x.length + y.length ≤ sizeLine then some (.str (x ++ y)) else none
  | .tup xs, .tup ys => if xs.length + ys.length ≤ sizeLine then some (.tup (xs ++ ys)) else none
  | .lst xs, .lst ys => if xs.length + ys.length ≤ sizeLine then some (.lst (xs ++ ys)) else none
  | _, _ => none
def rAdd (K : PySem.W.Frag) : R2 := fun x y H Q => rI0 (fun i j => .int (i + j)) x y H Q ∨ ((∃ i j, x = .str i ∧ y = .str j ∧ i.length + j.length ≤ sizeLine ∧ Q (.str (i ++ j)) H) ∨ (rCatA K x y H Q ∨ rCat x y H Q))
theorem op_addA {X : Cx} : OpR X (binaryOp .Add) (rAdd X.K) := op_or op_add (op_or op_add_str (op_or op_catA op_cat))
theorem ok_add {C : Ctx} {K : PySem.W.Frag} : OpOk C (rAdd K) kAdd := by
  intro G H σ env p v w d e z Q L rv rw ek q
  unfold kAdd at ek
  split at ek
  · cases ek
    rw [rv.int, rw.int]
    exact .inl ⟨_, _, rfl, rfl, q _ G H (Alc.refl L.sub) (.int _)⟩
  · split at ek
    · rename_i c
      cases ek
      rw [rv.str, rw.str]
      exact .inr (.inl ⟨_, _, rfl, rfl, c, q _ G H (Alc.refl L.sub) (.str _)⟩)
    · cases ek
  · split at ek
    · rename_i xs ys c
      cases ek
      obtain ⟨a, vs, rfl, ha, ra⟩ := rv.tup
      obtain ⟨b, ws, rfl, hb, rb⟩ := rw.tup
      refine .inr (.inr (.inl ⟨a, b, vs, ws, rfl, rfl, SqT.of (L.sub _ _ ha), SqT.of (L.sub _ _ hb), by rw [ra.length, rb.length]; exact c, fun h0 => ?_, fun _ h0 => ?_, fun _ _ pn hp => ?_⟩))
      · subst h0
        cases ra
        exact q _ G H (Alc.refl L.sub) (.tup hb rb)
      · subst h0
        cases rb
        refine q _ G H (Alc.refl L.sub) (.tup ha ?_)
        rw [List.append_nil]
        exact ra
      · have al : Alc G H (upd G pn (.tup (vs ++ ws))) (upd H pn (.tup (vs ++ ws))) := Alc.put L.sub hp
        exact q _ _ _ al (.tup upd_same ((ra.append rb).mono al.gro))
    · cases ek
  · split at ek
    · rename_i xs ys c
      cases ek
      obtain ⟨a, vs, rfl, ha, ra⟩ := rv.lst L
      obtain ⟨b, ws, rfl, hb, rb⟩ := rw.lst L
      refine .inr (.inr (.inr ⟨a, b, vs, ws, rfl, rfl, ha, hb, by rw [ra.length, rb.length]; exact c, fun pn hp => ?_⟩))
      have al : Alc G H (upd G pn (.lst (vs ++ ws))) (upd H pn (.lst (vs ++ ws))) := Alc.put L.sub hp
      exact q _ _ _ al (.lst upd_same ((ra.append rb).mono al.gro))
    · cases ek
  · cases ek
/-- lists joined, the new list one's own -/
def kCat : D → D → Option (List D)
  | .lst xs, .lst ys => if xs.length + ys.length ≤ sizeLine then some (xs ++ ys) else none
  | _, _ => none
theorem ok_cat {C : Ctx} : FOpOk C rCat kCat := by
  intro G H σ env p v w d e z Q L rv rw ek q
  unfold kCat at ek
  split at ek
  · split at ek
    · rename_i xs ys c
      cases ek
      obtain ⟨a, vs, rfl, ha, ra⟩ := rv.lst L
      obtain ⟨b, ws, rfl, hb, rb⟩ := rw.lst L
      exact ⟨a, b, vs, ws, rfl, rfl, ha, hb, by rw [ra.length, rb.length]; exact c, fun pn hp => q pn _ hp (ra.append rb)⟩
    · cases ek
  · cases ek
theorem tuple_mulW1 (l : Addr) (items : Array Value) (n : Nat) (dd : Option Addr) (sl : Array (Option Value)) (x : Int) (u : Tok) (c0 : (decide (x < -(2 ^ 63)) || decide (x ≥ 2 ^ 63)) = false) (c1 : (items.isEmpty || x == 1) = true) :
    Meets (Builtin.«tuple.__mul__» ⟨[.ref l, .int x u], []⟩) (fun _ R s => s.heap.get? l = some { cls := .type "tuple", dict := dd, data := .seq items n, slots := sl } ∧ R (.ok (.ret (Value.ref l))) s) :=
  .of_wp fun prog w A R s h => by
    obtain ⟨hp, g, d, tk, os⟩ := s
    obtain ⟨hl, h⟩ := h
    have f1 := AutoSeq1.idx_int
    wp_walk using wpAny_loadPart' hl
    repeat (first
      | (refine wpAny_ite_false (decide_eq_false (by rw [c0]; exact Bool.false_ne_true)) ?_; wp_walk using wpAny_loadPart' hl)
      | (refine wpAny_ite_true (decide_eq_true c1) ?_; wp_walk using wpAny_loadPart' hl))
    exact ⟨_, rfl, h⟩
/-- t * 1 is t itself -/
def rRepT1 (K : PySem.W.Frag) : R2 := fun x y H Q => ∃ l xs, x = .ref l ∧ y = .int 1 ∧ SqT K H l xs ∧ Q (.ref l) H
theorem op_repT1 {X : Cx} : OpR X (binaryOp .Mult) (rRepT1 X.K) := by
  intro pins s σ H x y v u Q I rx ry h
  obtain ⟨l, xs, rfl, rfl, hT, q⟩ := h
  have rx0 := rx
  cases rx
  obtain ⟨t, rfl⟩ := ry
  obtain ⟨its, r, ⟨⟨cls, dd, data, sl⟩, ho, hc, n, hd⟩, hs⟩ := I.tuple hT
  simp only at hc hd
  subst hc hd
  refine wpAny_binaryOp_repeat_ref (T := "tuple") (U := "int") (by decide) ⟨_, ho, rfl⟩ (fun s' => typeIs_int s' 1 t) noFill_tuple_mul F.fills_int_mul F.slot_int_rmul repeat_tuple F.slot_int_index.lookup
    (call_meets F.slot_int_rmul (typeIs_int s 1 t) F.entry_int_rmul (F.args_int_rmul_2 _ _) (int_rmul_tuple 1 t l its.toArray n dd sl)
      ⟨ho, rfl, ⟨_, ho, rfl⟩, call_meets F.slot_tuple_mul ⟨_, ho, rfl⟩ F.entry_tuple_mul (F.args_tuple_mul_2 _ _) (tuple_mulW1 l its.toArray n dd sl 1 t (by decide) (by simp)) ⟨ho, ?_⟩⟩)
  exact ⟨.ref l, H, I, rx0, q⟩
/-- products: ints, a tuple often -/
def kMul : D → D → Option D
  | .int i, .int j => kMulI i j
  | .tup xs, .int k => if k = 1 then some (.tup xs) else if xs ≠ [] ∧ 2 ≤ k ∧ k ≤ 1000 ∧ xs.length ≤ 1000 then some (.tup (List.replicate k.toNat xs).flatten) else none
  | _, _ => none
def rMul (K : PySem.W.Frag) : R2 := fun x y H Q => rI cMul (fun i j => .int (i * j)) x y H Q ∨ rRepT K x y H Q ∨ rRepT1 K x y H Q
theorem op_mulAny {X : Cx} : OpR X (binaryOp .Mult) (rMul X.K) := op_or op_mulA (op_or op_repT op_repT1)
theorem ok_mul {C : Ctx} {K : PySem.W.Frag} : OpOk C (rMul K) kMul := by
  intro G H σ env p v w d e z Q L rv rw ek q
  unfold kMul at ek
  split at ek
  · exact .inl (ok_mulI G H σ env p v w _ _ z Q L rv rw ek q)
  · split at ek
    · rename_i xs k c
      subst c
      cases ek
      obtain ⟨a, vs, rfl, ha, ra⟩ := rv.tup
      rw [rw.int]
      exact .inr (.inr ⟨a, vs, rfl, rfl, SqT.of (L.sub _ _ ha), q _ G H (Alc.refl L.sub) (.tup ha ra)⟩)
    split at ek
    · rename_i xs k _ c
      cases ek
      obtain ⟨a, vs, rfl, ha, ra⟩ := rv.tup
      rw [rw.int]
      refine .inr (.inl ⟨a, k, vs, rfl, rfl, SqT.of (L.sub _ _ ha), fun h0 => c.1 ?_, c.2.1, c.2.2.1, by rw [ra.length]; exact c.2.2.2, fun pn hp => ?_⟩)
      · subst h0
        cases ra
        rfl
      · have al : Alc G H (upd G pn (.tup (List.replicate k.toNat vs).flatten)) (upd H pn (.tup (List.replicate k.toNat vs).flatten)) := Alc.put L.sub hp
        exact q _ _ _ al (.tup upd_same ((ra.flat _).mono al.gro))
    · cases ek
  · cases ek
/-- a list often, the new list one's own -/
def kRep : D → D → Option (List D)
  | .lst xs, .int k => if -(2 ^ 63) ≤ k ∧ k < 2 ^ 63 ∧ xs.length * k.toNat ≤ sizeLine then some (List.replicate k.toNat xs).flatten else none
  | _, _ => none
theorem ok_rep {C : Ctx} : FOpOk C rRep kRep := by
  intro G H σ env p v w d e z Q L rv rw ek q
  unfold kRep at ek
  split at ek
  · split at ek
    · rename_i xs k c
      cases ek
      obtain ⟨a, vs, rfl, ha, ra⟩ := rv.lst L
      rw [rw.int]
      exact ⟨a, k, vs, rfl, rfl, ha, c.1, c.2.1, by rw [ra.length]; exact c.2.2, fun pn hp => q pn _ hp (ra.flat _)⟩
    · cases ek
  · cases ek

section
variable {X : Cx} {C : Ctx} {W : WX} {a b : Expr} {ma mb : EM} {pos : Pos}
theorem pm_add (ha : PE X a (rB C W ma)) (hb : PE X b (rB C W mb)) : PE X (.BinOp a .Add b pos) (rE C W (mOp kAdd ma mb)) := pm_op ok_add op_addA ha hb
theorem pm_sub (ha : PE X a (rB C W ma)) (hb : PE X b (rB C W mb)) : PE X (.BinOp a .Sub b pos) (rE C W (mOp kSub ma mb)) := pm_op ok_sub op_sub ha hb
theorem pm_mul (ha : PE X a (rB C W ma)) (hb : PE X b (rB C W mb)) : PE X (.BinOp a .Mult b pos) (rE C W (mOp kMul ma mb)) := pm_op ok_mul op_mulAny ha hb
theorem pm_div (ha : PE X a (rB C W ma)) (hb : PE X b (rB C W mb)) : PE X (.BinOp a .FloorDiv b pos) (rE C W (mOp kDiv ma mb)) := pm_op ok_div op_divA ha hb
theorem pm_mod (ha : PE X a (rB C W ma)) (hb : PE X b (rB C W mb)) : PE X (.BinOp a .Mod b pos) (rE C W (mOp kMod ma mb)) := pm_op ok_mod op_modN ha hb
theorem pm_pow (ha : PE X a (rB C W ma)) (hb : PE X b (rB C W mb)) : PE X (.BinOp a .Pow b pos) (rE C W (mOp kPow ma mb)) := pm_op ok_pow op_pow ha hb
theorem pm_cat (ha : PE X a (rB C W ma)) (hb : PE X b (rB C W mb)) : PE X (.BinOp a .Add b pos) (rF C W (mFOp kCat ma mb)) := pm_fop ok_cat op_cat ha hb
theorem pm_rep (ha : PE X a (rB C W ma)) (hb : PE X b (rB C W mb)) : PE X (.BinOp a .Mult b pos) (rF C W (mFOp kRep ma mb)) := pm_fop ok_rep op_rep ha hb
theorem pm_lt (ha : PE X a (rB C W ma)) (hb : PE X b (rB C W mb)) : PE X (.Compare a [.Lt] [b] pos) (rE C W (mOp kLt ma mb)) := pm_cmp ok_lt op_lt ha hb (nomark _)
theorem pm_le (ha : PE X a (rB C W ma)) (hb : PE X b (rB C W mb)) : PE X (.Compare a [.LtE] [b] pos) (rE C W (mOp kLe ma mb)) := pm_cmp ok_le op_le ha hb (nomark _)
theorem pm_gt (ha : PE X a (rB C W ma)) (hb : PE X b (rB C W mb)) : PE X (.Compare a [.Gt] [b] pos) (rE C W (mOp kGt ma mb)) := pm_cmp ok_gt op_gt ha hb (nomark _)
theorem pm_ge (ha : PE X a (rB C W ma)) (hb : PE X b (rB C W mb)) : PE X (.Compare a [.GtE] [b] pos) (rE C W (mOp kGe ma mb)) := pm_cmp ok_ge op_ge ha hb (nomark _)
theorem tm_lt (ha : PE X a (rB C W ma)) (hb : PE X b (rB C W mb)) : PT X (.Compare a [.Lt] [b] pos) (rT C W (mT (mOp kLt ma mb))) := tm_cmp ok_lt op_lt ha hb (nomark _)
theorem tm_le (ha : PE X a (rB C W ma)) (hb : PE X b (rB C W mb)) : PT X (.Compare a [.LtE] [b] pos) (rT C W (mT (mOp kLe ma mb))) := tm_cmp ok_le op_le ha hb (nomark _)
theorem tm_gt (ha : PE X a (rB C W ma)) (hb : PE X b (rB C W mb)) : PT X (.Compare a [.Gt] [b] pos) (rT C W (mT (mOp kGt ma mb))) := tm_cmp ok_gt op_gt ha hb (nomark _)
theorem tm_ge (ha : PE X a (rB C W ma)) (hb : PE X b (rB C W mb)) : PT X (.Compare a [.GtE] [b] pos) (rT C W (mT (mOp kGe ma mb))) := tm_cmp ok_ge op_ge ha hb (nomark _)
end
end Pu
end

section
set_option maxHeartbeats 2000000
namespace Pu
open PySem PySem.Spec PyProof.Rows L2

/-! ### data as the library's data -/
mutual
def D.py : D → PyData
  | .non => .none
  | .bl b => .bool b
  | .int i => .int i
  | .str x => .str x
  | .tup xs => .tuple (D.pys xs)
  | .lst xs => .list (D.pys xs)
  | .dct _ => .dict []
  | .obj _ _ => .dict []
  | .pen => .dict []
  | .fn _ => .dict []
  | .ty _ => .dict []
  | .exc _ _ => .dict []
  | .scr _ => .dict []
  | .clo => .dict []
  | .lam _ => .dict []
def D.pys : List D → List PyData
  | [] => []
  | x :: xs => x.py :: D.pys xs
end
theorem D.pys_map : ∀ ds : List D, D.pys ds = ds.map D.py
  | [] => by simp [D.pys]
  | d :: ds => by simp [D.pys, D.pys_map ds]
mutual
theorem Rep.dp {K : PySem.W.Frag} {C : Ctx} {G H : Hp} (s : Sub G H) : ∀ {v : V} {d : D}, Rep C G v d → d.py.canLay0 = true → Dp K H v d.py
  | _, _, .non, _ => by simp only [D.py]; exact .non
  | _, _, .bl b, _ => by simp only [D.py]; exact .bl b
  | _, _, .int i, _ => by simp only [D.py]; exact .int i
  | _, _, .str x, _ => by simp only [D.py]; exact .str x
  | _, _, .tup h r, c => by
    simp only [D.py] at c ⊢
    exact .tup (SqT.of (s _ _ h)) (Reps.dp s r (by simpa only [PyData.canLay0] using c))
  | _, _, .lst h r, c => by
    simp only [D.py] at c ⊢
    exact .lst (SqL.of (s _ _ h)) (Reps.dp s r (by simpa only [PyData.canLay0] using c))
  | _, _, .dct h r, c => by simp [D.py, PyData.canLay0] at c
  | _, _, .obj m h r, c => by simp [D.py, PyData.canLay0] at c
  | _, _, .pen h, c => by simp [D.py, PyData.canLay0] at c
  | _, _, .fn h, c => by simp [D.py, PyData.canLay0] at c
  | _, _, .ty n, c => by simp [D.py, PyData.canLay0] at c
  | _, _, .scr h, c => by simp [D.py, PyData.canLay0] at c
  | _, _, .clo h s0, c => by simp [D.py, PyData.canLay0] at c
  | _, _, .lam _ _ _, c => by simp [D.py, PyData.canLay0] at c
  | _, _, .exc0 h m, c => by simp [D.py, PyData.canLay0] at c
  | _, _, .exc1 h m g r, c => by simp [D.py, PyData.canLay0] at c
theorem Reps.dp {K : PySem.W.Frag} {C : Ctx} {G H : Hp} (s : Sub G H) : ∀ {vs : List V} {ds : List D}, Reps C G vs ds → PyData.canLayAll0 (D.pys ds) = true → DpAll K H vs (D.pys ds)
  | _, _, .nil, _ => by simp only [D.pys]; exact .nil
  | _, _, .cons h t, c => by
    simp only [D.pys, PyData.canLayAll0, Bool.and_eq_true] at c ⊢
    exact .cons (Rep.dp s h c.1) (Reps.dp s t c.2)
end
theorem BRep.dp {K : PySem.W.Frag} {C : Ctx} {G H : Hp} {σ : St} {env : Env} {p : Pen} {v : V} {d : D} (h : BRep C G σ env v d) (L : LOk C G H σ env p) (c : d.py.canLay0 = true) : Dp K H v d.py := by
  rcases h with h | ⟨i, ds, a, e1, e2, e3, e4⟩
  · exact h.dp L.sub c
  · subst e2
    obtain ⟨b, vs, h1, h2, _, h4⟩ := L.own e4
    rw [e3] at h1
    cases h1
    subst e1
    simp only [D.py] at c ⊢
    exact .lst (SqL.of h2) (h4.dp L.sub (by simpa only [PyData.canLay0] using c))

/-! ### ==, != -/
def kEq (d e : D) : Option D := if SeqAt.shaped d.py = true ∧ SeqAt.shaped e.py = true then some (.bl (PyData.eqv d.py e.py)) else none
def kNe (d e : D) : Option D := if SeqAt.shaped d.py = true ∧ SeqAt.shaped e.py = true then some (.bl (!PyData.eqv d.py e.py)) else none
theorem ok_eq {C : Ctx} {K : PySem.W.Frag} : OpOk C (rEqD K) kEq := by
  intro G H σ env p v w d e z Q L rv rw ek q
  unfold kEq at ek
  split at ek
  · rename_i c
    cases ek
    exact ⟨_, _, rv.dp L (SeqAt.canLay_of_shaped c.1), rw.dp L (SeqAt.canLay_of_shaped c.2), c.1, c.2, q _ G H (Alc.refl L.sub) (.bl _)⟩
  · cases ek
theorem ok_ne {C : Ctx} {K : PySem.W.Frag} : OpOk C (rNeD K) kNe := by
  intro G H σ env p v w d e z Q L rv rw ek q
  unfold kNe at ek
  split at ek
  · rename_i c
    cases ek
    exact ⟨_, _, rv.dp L (SeqAt.canLay_of_shaped c.1), rw.dp L (SeqAt.canLay_of_shaped c.2), c.1, c.2, q _ G H (Alc.refl L.sub) (.bl _)⟩
  · cases ek

/-! ### in -/
def D.flat : D → Bool
  | .non => true
  | .bl _ => true
  | .int _ => true
  | .str _ => true
  | _ => false
theorem flat_rep {C : Ctx} {G : Hp} {v : V} {d : D} (h : Rep C G v d) (f : d.flat = true) : flatV v = true := by
  cases h <;> first
    | rfl
    | cases f
theorem flat_eqV {C : Ctx} {G : Hp} {v w : V} {d e : D} (h : Rep C G v d) (h2 : Rep C G w e) (f : d.flat = true) (f2 : e.flat = true) : eqV v w = PyData.eqv d.py e.py := by
  cases h <;> cases h2 <;> first
    | rfl
    | cases f
    | cases f2
    | (simp [eqV, D.py, PyData.eqv])
theorem flat_all {C : Ctx} {G : Hp} : ∀ {vs : List V} {ds : List D}, Reps C G vs ds → ds.all D.flat = true → vs.all flatV = true
  | _, _, .nil, _ => rfl
  | _, _, .cons h t, f => by
    rw [List.all_cons, Bool.and_eq_true] at f ⊢
    exact ⟨flat_rep h f.1, flat_all t f.2⟩
theorem flat_in {C : Ctx} {G : Hp} {v : V} {d : D} (h : Rep C G v d) (f : d.flat = true) : ∀ {vs : List V} {ds : List D}, Reps C G vs ds → ds.all D.flat = true → inV v vs = ds.any fun y => PyData.eqv y.py d.py
  | _, _, .nil, _ => rfl
  | _, _, .cons h2 t, f2 => by
    rw [List.all_cons, Bool.and_eq_true] at f2
    have ih := flat_in h f t f2.2
    unfold inV at ih ⊢
    rw [List.any_cons, List.any_cons, flat_eqV h2 h f2.1 f, ih]
def D.items : D → Option (List D)
  | .lst xs => some xs
  | .tup xs => some xs
  | _ => none
theorem D.items_or {d : D} {ds : List D} (h : d.items = some ds) : d = .lst ds ∨ d = .tup ds := by
  cases d <;> first
    | (cases h; exact .inl rfl)
    | (cases h; exact .inr rfl)
    | cases h
def kIn (d e : D) : Option D := match e.items with
  | some es => if d.flat = true ∧ es.all D.flat = true then some (.bl (es.any fun y => PyData.eqv y.py d.py)) else none
  | none => none
def kNotIn (d e : D) : Option D := match e.items with
  | some es => if d.flat = true ∧ es.all D.flat = true then some (.bl (!es.any fun y => PyData.eqv y.py d.py)) else none
  | none => none
theorem BRep.flat {C : Ctx} {G : Hp} {σ : St} {env : Env} {v : V} {d : D} (h : BRep C G σ env v d) (f : d.flat = true) : Rep C G v d := by
  rcases h with h | ⟨_, _, _, _, e2, _⟩
  · exact h
  · subst e2
    cases f
theorem ok_in {C : Ctx} {K : PySem.W.Frag} : OpOk C (rIn K false) kIn := by
  intro G H σ env p v w d e z Q L rv rw ek q
  unfold kIn at ek
  split at ek
  · rename_i es hes
    split at ek
    · rename_i c
      cases ek
      obtain ⟨a, vs, rfl, hH, rs⟩ := rw.seq L (D.items_or hes)
      refine ⟨a, vs, rfl, hH.elim (fun h => .inl (SqL.of h)) (fun h => .inr (SqT.of h)), flat_rep (rv.flat c.1) c.1, flat_all rs c.2, ?_⟩
      rw [flat_in (rv.flat c.1) c.1 rs c.2]
      exact q _ G H (Alc.refl L.sub) (.bl _)
    · cases ek
  · cases ek
theorem ok_notIn {C : Ctx} {K : PySem.W.Frag} : OpOk C (rIn K true) kNotIn := by
  intro G H σ env p v w d e z Q L rv rw ek q
  unfold kNotIn at ek
  split at ek
  · rename_i es hes
    split at ek
    · rename_i c
      cases ek
      obtain ⟨a, vs, rfl, hH, rs⟩ := rw.seq L (D.items_or hes)
      refine ⟨a, vs, rfl, hH.elim (fun h => .inl (SqL.of h)) (fun h => .inr (SqT.of h)), flat_rep (rv.flat c.1) c.1, flat_all rs c.2, ?_⟩
      rw [flat_in (rv.flat c.1) c.1 rs c.2]
      exact q _ G H (Alc.refl L.sub) (.bl _)
    · cases ek
  · cases ek
/-- in a list of data of any depth -/
def kInD (d e : D) : Option D := match e with
  | .lst es => if SeqAt.shaped d.py = true ∧ SeqAt.shaped (D.lst es).py = true then some (.bl (es.any fun y => PyData.eqv y.py d.py)) else none
  | _ => none
def kNotInD (d e : D) : Option D := match e with
  | .lst es => if SeqAt.shaped d.py = true ∧ SeqAt.shaped (D.lst es).py = true then some (.bl (!es.any fun y => PyData.eqv y.py d.py)) else none
  | _ => none
theorem pys_any (es : List D) (d : D) : ((D.pys es).any fun z => PyData.eqv z d.py) = es.any fun y => PyData.eqv y.py d.py := by
  rw [D.pys_map, List.any_map]
  rfl
theorem ok_inD {C : Ctx} {K : PySem.W.Frag} : OpOk C (rInD K) kInD := by
  intro G H σ env p v w d e z Q L rv rw ek q
  unfold kInD at ek
  split at ek
  · rename_i es
    split at ek
    · rename_i c
      cases ek
      have h2 := rw.dp (K := K) L (SeqAt.canLay_of_shaped c.2)
      have c2 := c.2
      simp only [D.py] at h2 c2
      refine ⟨_, _, rv.dp L (SeqAt.canLay_of_shaped c.1), h2, c.1, c2, ?_⟩
      rw [pys_any]
      exact q _ G H (Alc.refl L.sub) (.bl _)
    · cases ek
  · cases ek
theorem ok_notInD {C : Ctx} {K : PySem.W.Frag} : OpOk C (rNotInD K) kNotInD := by
  intro G H σ env p v w d e z Q L rv rw ek q
  unfold kNotInD at ek
  split at ek
  · rename_i es
    split at ek
    · rename_i c
      cases ek
      have h2 := rw.dp (K := K) L (SeqAt.canLay_of_shaped c.2)
      have c2 := c.2
      simp only [D.py] at h2 c2
      refine ⟨_, _, rv.dp L (SeqAt.canLay_of_shaped c.1), h2, c.1, c2, ?_⟩
      rw [pys_any]
      exact q _ G H (Alc.refl L.sub) (.bl _)
    · cases ek
  · cases ek

/-! ### is None, is True, is False -/
def D.isN : D → Bool
  | .non => true
  | _ => false
def D.isB (b : Bool) : D → Bool
  | .bl c => c == b
  | _ => false
theorem BRep.isN {C : Ctx} {G : Hp} {σ : St} {env : Env} {v : V} {d : D} (h : BRep C G σ env v d) : decide (v = .non) = d.isN := by
  rcases h with h | ⟨_, _, _, e1, e2, _⟩
  · cases h <;> rfl
  · subst e1 e2
    rfl
theorem BRep.isB {C : Ctx} {G : Hp} {σ : St} {env : Env} {v : V} {d : D} (b : Bool) (h : BRep C G σ env v d) : decide (v = .bl b) = d.isB b := by
  rcases h with h | ⟨_, _, _, e1, e2, _⟩
  · cases h <;> first
      | rfl
      | (rename_i c; cases c <;> cases b <;> rfl)
  · subst e1 e2
    rfl
/-- y is a written None, True or False -/
def kIs (d e : D) : Option D := match e with
  | .non => some (.bl d.isN)
  | .bl b => some (.bl (d.isB b))
  | _ => none
def kIsNot (d e : D) : Option D := match e with
  | .non => some (.bl (!d.isN))
  | .bl b => some (.bl (!d.isB b))
  | _ => none
def rIsA : R2 := fun x y H Q => (y = .non ∧ Q (.bl (decide (x = .non))) H) ∨ ∃ b, y = .bl b ∧ Q (.bl (decide (x = .bl b))) H
def rIsNotA : R2 := fun x y H Q => (y = .non ∧ Q (.bl (!decide (x = .non))) H) ∨ ∃ b, y = .bl b ∧ Q (.bl (!decide (x = .bl b))) H
theorem relV_bool {x : V} {v : Value} {b : Bool} (r : RelV x v) : (v == Value.bool b) = decide (x = .bl b) ∧ plainIs v (.bool b) = true := by
  cases x with
  | bl c =>
    cases r
    exact ⟨by cases b <;> cases c <;> rfl, rfl⟩
  | int _ =>
    obtain ⟨t, rfl⟩ := r
    exact ⟨rfl, rfl⟩
  | str _ =>
    obtain ⟨t, rfl⟩ := r
    exact ⟨rfl, rfl⟩
  | byt _ =>
    obtain ⟨t, rfl⟩ := r
    exact ⟨rfl, rfl⟩
  | flt _ =>
    obtain ⟨t, rfl⟩ := r
    exact ⟨rfl, rfl⟩
  | _ =>
    cases r
    exact ⟨rfl, rfl⟩
theorem op_isA {X : Cx} : OpR X (compareOp .Is) rIsA := by
  intro pins s σ H x y v u Q I rx ry h
  rcases h with h | ⟨b, rfl, q⟩
  · exact op_isN pins s σ H x y v u Q I rx ry h
  · cases (show u = Value.bool b from ry)
    obtain ⟨e1, e2⟩ := relV_bool (b := b) rx
    exact wpAny_is_plain e2 ⟨.bl _, H, I, by rw [e1]; rfl, q⟩
theorem op_isNotA {X : Cx} : OpR X (compareOp .IsNot) rIsNotA := by
  intro pins s σ H x y v u Q I rx ry h
  rcases h with h | ⟨b, rfl, q⟩
  · exact op_notN pins s σ H x y v u Q I rx ry h
  · cases (show u = Value.bool b from ry)
    obtain ⟨e1, e2⟩ := relV_bool (b := b) rx
    exact wpAny_isNot_plain e2 ⟨.bl _, H, I, by rw [e1]; rfl, q⟩
theorem ok_is {C : Ctx} : OpOk C rIsA kIs := by
  intro G H σ env p v w d e z Q L rv rw ek q
  unfold kIs at ek
  split at ek
  · cases ek
    refine .inl ⟨rw.non, ?_⟩
    rw [rv.isN]
    exact q _ G H (Alc.refl L.sub) (.bl _)
  · cases ek
    refine .inr ⟨_, rw.bl, ?_⟩
    rw [rv.isB]
    exact q _ G H (Alc.refl L.sub) (.bl _)
  · cases ek
theorem ok_isNot {C : Ctx} : OpOk C rIsNotA kIsNot := by
  intro G H σ env p v w d e z Q L rv rw ek q
  unfold kIsNot at ek
  split at ek
  · cases ek
    refine .inl ⟨rw.non, ?_⟩
    rw [rv.isN]
    exact q _ G H (Alc.refl L.sub) (.bl _)
  · cases ek
    refine .inr ⟨_, rw.bl, ?_⟩
    rw [rv.isB]
    exact q _ G H (Alc.refl L.sub) (.bl _)
  · cases ek

section
variable {X : Cx} {C : Ctx} {W : WX} {a b : Expr} {ma mb : EM} {pos : Pos}
theorem pm_eq (hu : X.A.units + 64 < cLine) (ha : PE X a (rB C W ma)) (hb : PE X b (rB C W mb)) : PE X (.Compare a [.Eq] [b] pos) (rE C W (mOp kEq ma mb)) := pm_cmp ok_eq (op_eqD hu) ha hb (nomark _)
theorem pm_ne (hu : X.A.units + 64 < cLine) (ha : PE X a (rB C W ma)) (hb : PE X b (rB C W mb)) : PE X (.Compare a [.NotEq] [b] pos) (rE C W (mOp kNe ma mb)) := pm_cmp ok_ne (op_neD hu) ha hb (nomark _)
theorem tm_eq (hu : X.A.units + 64 < cLine) (ha : PE X a (rB C W ma)) (hb : PE X b (rB C W mb)) : PT X (.Compare a [.Eq] [b] pos) (rT C W (mT (mOp kEq ma mb))) := tm_cmp ok_eq (op_eqD hu) ha hb (nomark _)
theorem tm_ne (hu : X.A.units + 64 < cLine) (ha : PE X a (rB C W ma)) (hb : PE X b (rB C W mb)) : PT X (.Compare a [.NotEq] [b] pos) (rT C W (mT (mOp kNe ma mb))) := tm_cmp ok_ne (op_neD hu) ha hb (nomark _)
theorem pm_in (ha : PE X a (rB C W ma)) (hb : PE X b (rB C W mb)) (hm : behindInMarks .In b = false := by rfl) : PE X (.Compare a [.In] [b] pos) (rE C W (mOp kIn ma mb)) := pm_cmp ok_in op_in_seq ha hb hm
theorem pm_notIn (ha : PE X a (rB C W ma)) (hb : PE X b (rB C W mb)) (hm : behindInMarks .NotIn b = false := by rfl) : PE X (.Compare a [.NotIn] [b] pos) (rE C W (mOp kNotIn ma mb)) := pm_cmp ok_notIn op_notIn_seq ha hb hm
theorem tm_in (ha : PE X a (rB C W ma)) (hb : PE X b (rB C W mb)) (hm : behindInMarks .In b = false := by rfl) : PT X (.Compare a [.In] [b] pos) (rT C W (mT (mOp kIn ma mb))) := tm_cmp ok_in op_in_seq ha hb hm
theorem tm_notIn (ha : PE X a (rB C W ma)) (hb : PE X b (rB C W mb)) (hm : behindInMarks .NotIn b = false := by rfl) : PT X (.Compare a [.NotIn] [b] pos) (rT C W (mT (mOp kNotIn ma mb))) := tm_cmp ok_notIn op_notIn_seq ha hb hm
theorem pm_inD (hu : X.A.units + 65 < cLine) (ha : PE X a (rB C W ma)) (hb : PE X b (rB C W mb)) (hm : behindInMarks .In b = false := by rfl) : PE X (.Compare a [.In] [b] pos) (rE C W (mOp kInD ma mb)) := pm_cmp ok_inD (op_inD hu) ha hb hm
theorem pm_notInD (hu : X.A.units + 65 < cLine) (ha : PE X a (rB C W ma)) (hb : PE X b (rB C W mb)) (hm : behindInMarks .NotIn b = false := by rfl) : PE X (.Compare a [.NotIn] [b] pos) (rE C W (mOp kNotInD ma mb)) := pm_cmp ok_notInD (op_notInD hu) ha hb hm
theorem tm_inD (hu : X.A.units + 65 < cLine) (ha : PE X a (rB C W ma)) (hb : PE X b (rB C W mb)) (hm : behindInMarks .In b = false := by rfl) : PT X (.Compare a [.In] [b] pos) (rT C W (mT (mOp kInD ma mb))) := tm_cmp ok_inD (op_inD hu) ha hb hm
theorem tm_notInD (hu : X.A.units + 65 < cLine) (ha : PE X a (rB C W ma)) (hb : PE X b (rB C W mb)) (hm : behindInMarks .NotIn b = false := by rfl) : PT X (.Compare a [.NotIn] [b] pos) (rT C W (mT (mOp kNotInD ma mb))) := tm_cmp ok_notInD (op_notInD hu) ha hb hm
theorem pm_is (ha : PE X a (rB C W ma)) (hb : PE X b (rB C W mb)) : PE X (.Compare a [.Is] [b] pos) (rE C W (mOp kIs ma mb)) := pm_cmp ok_is op_isA ha hb (nomark _)
theorem pm_isNot (ha : PE X a (rB C W ma)) (hb : PE X b (rB C W mb)) : PE X (.Compare a [.IsNot] [b] pos) (rE C W (mOp kIsNot ma mb)) := pm_cmp ok_isNot op_isNotA ha hb (nomark _)
theorem tm_is (ha : PE X a (rB C W ma)) (hb : PE X b (rB C W mb)) : PT X (.Compare a [.Is] [b] pos) (rT C W (mT (mOp kIs ma mb))) := tm_cmp ok_is op_isA ha hb (nomark _)
theorem tm_isNot (ha : PE X a (rB C W ma)) (hb : PE X b (rB C W mb)) : PT X (.Compare a [.IsNot] [b] pos) (rT C W (mT (mOp kIsNot ma mb))) := tm_cmp ok_isNot op_isNotA ha hb (nomark _)
end
end Pu
end

section
set_option maxHeartbeats 2000000
namespace Pu
open PySem PySem.Spec PyProof.Rows L2

/-! ### and, or, not, if-expressions, chains -/
def mTAnd (a b : TM) : TM := fun env p => (a env p).bind fun c q => if c = true then b env q else .ok false q
def mTOr (a b : TM) : TM := fun env p => (a env p).bind fun c q => if c = true then .ok true q else b env q
def mTNot (a : TM) : TM := fun env p => (a env p).bind fun c q => .ok (!c) q
/-- a test as a value -/
def mV (a : TM) : EM := fun env p => (a env p).bind fun c q => .ok (.bl c) q
def mIf (t : TM) (a b : EM) : EM := fun env p => (t env p).bind fun c q => if c = true then a env q else b env q
section
variable {X : Cx} {C : Ctx} {W : WX} {a b c : Expr} {rest : List Expr} {ta tb : TM} {ma mb mc : EM} {pos : Pos}
theorem rd_and {t2 : TT} (h2 : ∀ σ H Q, rT C W tb σ H Q → t2 σ H Q) {σ : St} {H : Hp} {Q : Bool → Hp → Prop} (h : rT C W (mTAnd ta tb) σ H Q) : tAnd (rT C W ta) t2 σ H Q := by
  obtain ⟨G, env, p, L, o⟩ := h
  refine ⟨G, env, p, L, o.bind.imp (fun d q z G1 H1 x1 y1 => ?_) fun _ _ z => z⟩
  cases d with
  | true =>
    rw [if_pos rfl]
    rw [if_pos rfl] at z
    exact h2 _ _ _ ⟨G1, env, q, L.step x1 y1, z.imp (fun b q2 z2 G2 H2 x2 y2 => z2 G2 H2 (x1.trans x2) y2) fun _ _ z => z.step x1⟩
  | false =>
    rw [if_neg Bool.false_ne_true]
    rw [if_neg Bool.false_ne_true] at z
    exact z G1 H1 x1 y1
theorem rd_or {t2 : TT} (h2 : ∀ σ H Q, rT C W tb σ H Q → t2 σ H Q) {σ : St} {H : Hp} {Q : Bool → Hp → Prop} (h : rT C W (mTOr ta tb) σ H Q) : tOr (rT C W ta) t2 σ H Q := by
  obtain ⟨G, env, p, L, o⟩ := h
  refine ⟨G, env, p, L, o.bind.imp (fun d q z G1 H1 x1 y1 => ?_) fun _ _ z => z⟩
  cases d with
  | true =>
    rw [if_pos rfl]
    rw [if_pos rfl] at z
    exact z G1 H1 x1 y1
  | false =>
    rw [if_neg Bool.false_ne_true]
    rw [if_neg Bool.false_ne_true] at z
    exact h2 _ _ _ ⟨G1, env, q, L.step x1 y1, z.imp (fun b q2 z2 G2 H2 x2 y2 => z2 G2 H2 (x1.trans x2) y2) fun _ _ z => z.step x1⟩
theorem rd_not {σ : St} {H : Hp} {Q : Bool → Hp → Prop} (h : rT C W (mTNot ta) σ H Q) : tNot (rT C W ta) σ H Q := by
  obtain ⟨G, env, p, L, o⟩ := h
  exact ⟨G, env, p, L, o.bind.imp (fun d q z G1 H1 x1 y1 => z G1 H1 x1 y1) fun _ _ z => z⟩
theorem wm_and1 (h : PT X a (rT C W ta)) : PW X (.BoolOp .And [a] pos) (rT C W ta) := pw_and1 h
theorem wm_or1 (h : PT X a (rT C W ta)) : PW X (.BoolOp .Or [a] pos) (rT C W ta) := pw_or1 h
theorem wm_and (ha : PT X a (rT C W ta)) (hb : PW X (.BoolOp .And (b :: rest) pos) (rT C W tb)) : PW X (.BoolOp .And (a :: b :: rest) pos) (rT C W (mTAnd ta tb)) := (pw_and ha hb).of fun _ _ _ h => rd_and (fun _ _ _ z => z) h
theorem wm_or (ha : PT X a (rT C W ta)) (hb : PW X (.BoolOp .Or (b :: rest) pos) (rT C W tb)) : PW X (.BoolOp .Or (a :: b :: rest) pos) (rT C W (mTOr ta tb)) := (pw_or ha hb).of fun _ _ _ h => rd_or (fun _ _ _ z => z) h
theorem tm_not (ha : PT X a (rT C W ta)) : PT X (.UnaryOp .Not a pos) (rT C W (mTNot ta)) := (pt_not ha).of fun _ _ _ h => rd_not h
/-- the same as values: every part a bool -/
theorem vm_one {op} (h : PE X a (rE C W (mV ta))) : PE X (.BoolOp op [a] pos) (rE C W (mV ta)) := pe_one h
theorem rd_v {σ : St} {H : Hp} {Q : VK} (h : rE C W (mV ta) σ H Q) : rT C W ta σ H (fun b H' => Q (.bl b) H') := by
  obtain ⟨G, env, p, L, o⟩ := h
  exact ⟨G, env, p, L, o.bind.imp (fun d q z G1 H1 x1 y1 => z (.bl d) G1 H1 x1 y1 (.bl _)) fun _ _ z => z⟩
theorem vm_and (ha : PE X a (rE C W (mV ta))) (hb : PE X (.BoolOp .And (b :: rest) pos) (rE C W (mV tb))) : PE X (.BoolOp .And (a :: b :: rest) pos) (rE C W (mV (mTAnd ta tb))) := (pe_and ha hb).of fun σ H Q h => by
  obtain ⟨G, env, p, L, o⟩ := rd_v h
  refine ⟨G, env, p, L, OutP.mk (o.bind.imp (fun d q z v G1 H1 x1 y1 r1 => ?_) fun _ _ z => z)⟩
  cases r1
  refine ⟨d, rfl, ?_⟩
  cases d with
  | true =>
    rw [if_pos rfl]
    exact ⟨G1, env, q, L.step x1 y1, OutP.mk (OutP.imp z (fun d3 q3 z3 v G2 H2 x2 y2 r2 => by
      cases r2
      exact z3 G2 H2 (x1.trans x2) y2) fun _ _ z => z.step x1)⟩
  | false =>
    rw [if_neg Bool.false_ne_true]
    exact z G1 H1 x1 y1
theorem vm_or (ha : PE X a (rE C W (mV ta))) (hb : PE X (.BoolOp .Or (b :: rest) pos) (rE C W (mV tb))) : PE X (.BoolOp .Or (a :: b :: rest) pos) (rE C W (mV (mTOr ta tb))) := (pe_or ha hb).of fun σ H Q h => by
  obtain ⟨G, env, p, L, o⟩ := rd_v h
  refine ⟨G, env, p, L, OutP.mk (o.bind.imp (fun d q z v G1 H1 x1 y1 r1 => ?_) fun _ _ z => z)⟩
  cases r1
  refine ⟨d, rfl, ?_⟩
  cases d with
  | false =>
    rw [if_neg Bool.false_ne_true]
    exact ⟨G1, env, q, L.step x1 y1, OutP.mk (OutP.imp z (fun d3 q3 z3 v G2 H2 x2 y2 r2 => by
      cases r2
      exact z3 G2 H2 (x1.trans x2) y2) fun _ _ z => z.step x1)⟩
  | true =>
    rw [if_pos rfl]
    exact z G1 H1 x1 y1
theorem vm_not (ha : PE X a (rE C W (mV ta))) : PE X (.UnaryOp .Not a pos) (rE C W (mV (mTNot ta))) := (pe_not ha).of fun σ H Q h => by
  obtain ⟨G, env, p, L, o⟩ := rd_v h
  refine ⟨G, env, p, L, OutP.mk (o.bind.imp (fun d q z v G1 H1 x1 y1 r1 => ?_) fun _ _ z => z)⟩
  cases r1
  exact ⟨d, rfl, z G1 H1 x1 y1⟩
/-- a value that is a bool, as the value of a test -/
theorem vm {m : EM} (h : PE X a (rE C W m)) : PE X a (rE C W (mV (mT m))) := h.of fun σ H Q ⟨G, env, p, L, o⟩ => by
  refine ⟨G, env, p, L, o.bind.bind.imp (fun d q z v G1 H1 x1 y1 r1 => ?_) fun _ _ z => z⟩
  cases d with
  | bl b =>
    cases r1
    exact z (.bl b) G1 H1 x1 y1 (.bl _)
  | _ => exact z.elim
theorem pm_if {t : Expr} {mt : TM} (ht : PT X t (rT C W mt)) (ha : PE X a (rE C W ma)) (hb : PE X b (rE C W mb)) : PE X (.IfExp t a b pos) (rE C W (mIf mt ma mb)) := (pe_ifExp ht ha hb).of fun σ H Q ⟨G, env, p, L, o⟩ => by
  refine ⟨G, env, p, L, o.bind.imp (fun d q z G1 H1 x1 y1 => ?_) fun _ _ z => z⟩
  cases d with
  | true =>
    rw [if_pos rfl]
    rw [if_pos rfl] at z
    exact ⟨G1, env, q, L.step x1 y1, z.imp (fun d2 q2 z2 v G2 H2 x2 y2 r2 => z2 v G2 H2 (x1.trans x2) y2 r2) fun _ _ z => z.step x1⟩
  | false =>
    rw [if_neg Bool.false_ne_true]
    rw [if_neg Bool.false_ne_true] at z
    exact ⟨G1, env, q, L.step x1 y1, z.imp (fun d2 q2 z2 v G2 H2 x2 y2 r2 => z2 v G2 H2 (x1.trans x2) y2 r2) fun _ _ z => z.step x1⟩
/-- a < b < c -/
def mChain (k k' : D → D → Option D) (ma mb mc : EM) : EM := fun env p => (ma env p).bind fun d p1 => (mb env p1).bind fun e p2 => match k d e with
  | some (.bl true) => (mc env p2).bind fun f p3 => match k' e f with
    | some z => .ok z p3
    | none => .bad
  | some (.bl false) => .ok (.bl false) p2
  | _ => .bad
theorem rd_chain {r r' : R2} {k k' : D → D → Option D} (hk : OpOk C r k) (hk' : OpOk C r' k') {σ : St} {H : Hp} {Q : VK} (h : rE C W (mChain k k' ma mb mc) σ H Q) : tChain r r' (rB C W ma) (rB C W mb) (rB C W mc) σ H Q := by
  obtain ⟨G, env, p, L, o⟩ := h
  refine ⟨G, env, p, L, o.bind.imp (fun d q z v G1 H1 x1 y1 r1 => ?_) fun _ _ z => z⟩
  refine ⟨G1, env, q, L.step x1 y1, z.bind.imp (fun e q2 z2 w G2 H2 x2 y2 r2 => ?_) fun _ _ z => z.step x1⟩
  have L2 := (L.step x1 y1).step x2 y2
  have x12 := x1.trans x2
  split at z2
  · rename_i ek
    refine hk G2 H2 σ env q2 v w d e _ _ L2 (r1.mono x2.gro) r2 ek fun x G3 H3 al rx => ?_
    cases rx
    refine ⟨true, rfl, ?_⟩
    rw [if_pos rfl]
    have L3 := L2.alc al
    have x3 := x12.trans (L2.ext al)
    refine ⟨G3, env, q2, L3, z2.bind.imp (fun f q4 z4 u G4 H4 x4 y4 r4 => ?_) fun _ _ z => z.step x3⟩
    have L4 := L3.step x4 y4
    cases ek' : k' e f with
    | none =>
      rw [ek'] at z4
      exact z4.elim
    | some y =>
      rw [ek'] at z4
      exact hk' G4 H4 σ env q4 w u e f y Q L4 ((r2.mono al.gro).mono x4.gro) r4 ek' fun x G5 H5 al5 rx => z4 x G5 H5 ((x3.trans x4).trans (L4.ext al5)) (y4.alc al5) rx
  · rename_i ek
    refine hk G2 H2 σ env q2 v w d e _ _ L2 (r1.mono x2.gro) r2 ek fun x G3 H3 al rx => ?_
    cases rx
    refine ⟨false, rfl, ?_⟩
    rw [if_neg Bool.false_ne_true]
    exact z2 (.bl false) G3 H3 (x12.trans (L2.ext al)) (y2.alc al) (.bl _)
  · exact z2.elim
theorem pm_chain {op op' : CmpOp} {r r' : R2} {k k' : D → D → Option D} (hk : OpOk C r k) (hk' : OpOk C r' k') (ho : OpR X (compareOp op) r) (ho' : OpR X (compareOp op') r') (ha : PE X a (rB C W ma)) (hb : PE X b (rB C W mb)) (hc : PE X c (rB C W mc))
    (hm : lastMarks [op, op'] [b, c] = false := by with_unfolding_all rfl) : PE X (.Compare a [op, op'] [b, c] pos) (rE C W (mChain k k' ma mb mc)) := (pe_chain ho ho' ha hb hc hm).of fun _ _ _ h => rd_chain hk hk' h
theorem tm_chain {op op' : CmpOp} {r r' : R2} {k k' : D → D → Option D} (hk : OpOk C r k) (hk' : OpOk C r' k') (ho : OpR X (compareOp op) r) (ho' : OpR X (compareOp op') r') (ha : PE X a (rB C W ma)) (hb : PE X b (rB C W mb)) (hc : PE X c (rB C W mc))
    (hm : lastMarks [op, op'] [b, c] = false := by with_unfolding_all rfl) : PT X (.Compare a [op, op'] [b, c] pos) (rT C W (mT (mChain k k' ma mb mc))) := (pt_chain ho ho' ha hb hc hm).of fun _ _ _ h => rd_chain hk hk' (rd_test h)
end

/-! ### argument lists, displays -/
def aNil : AM := fun _ p => .ok [] p
def aCons (m : EM) (r : AM) : AM := fun env p => (m env p).bind fun d q => (r env q).bind fun ds q2 => .ok (d :: ds) q2
section
variable {X : Cx} {C : Ctx} {W : WX} {e : Expr} {es : List Expr} {m : EM} {r : AM} {pos : Pos}
theorem am_nil : PA X [] (rA C W aNil) := pa_nil.of fun σ H Q ⟨G, env, p, L, o⟩ => o [] G H (Ext.refl L.sub L.tab) L.pen .nil
theorem am_cons (h : PE X e (rE C W m)) (hr : PA X es (rA C W r)) (hs : starEach (e :: es) X.env = (false, eval e X.env) :: starEach es X.env := by rfl) : PA X (e :: es) (rA C W (aCons m r)) := (pa_cons h hr hs).of fun σ H Q ⟨G, env, p, L, o⟩ =>
  ⟨G, env, p, L, o.bind.imp (fun d q z v G1 H1 x1 y1 r1 => ⟨G1, env, q, L.step x1 y1, z.bind.imp (fun ds q2 z2 vs G2 H2 x2 y2 r2 => z2 (v :: vs) G2 H2 (x1.trans x2) y2 (.cons (r1.mono x2.gro) r2)) fun _ _ z => z.step x1⟩) fun _ _ z => z⟩
theorem bm_nil : PA X [] (rAB C W aNil) := pa_nil.of fun σ H Q ⟨G, env, p, L, o⟩ => o [] G H (Ext.refl L.sub L.tab) L.pen .nil
theorem bm_cons (h : PE X e (rB C W m)) (hr : PA X es (rAB C W r)) (hs : starEach (e :: es) X.env = (false, eval e X.env) :: starEach es X.env := by rfl) : PA X (e :: es) (rAB C W (aCons m r)) := (pa_cons h hr hs).of fun σ H Q ⟨G, env, p, L, o⟩ =>
  ⟨G, env, p, L, o.bind.imp (fun d q z v G1 H1 x1 y1 r1 => ⟨G1, env, q, L.step x1 y1, z.bind.imp (fun ds q2 z2 vs G2 H2 x2 y2 r2 => z2 (v :: vs) G2 H2 (x1.trans x2) y2 (.cons (r1.mono x2.gro) r2)) fun _ _ z => z.step x1⟩) fun _ _ z => z⟩
def mTup (r : AM) : EM := fun env p => (r env p).bind fun ds q => if ds.length ≤ sizeLine then .ok (.tup ds) q else .bad
theorem pm_tup {k} (h : PA X es (rA C W r)) : PE X (.Tuple es k pos) (rE C W (mTup r)) := (pe_tup h).of fun σ H Q ⟨G, env, p, L, o⟩ => by
  refine ⟨G, env, p, L, o.bind.imp (fun ds q z vs G1 H1 x1 y1 r1 => ?_) fun _ _ z => z⟩
  split at z
  · rename_i c
    refine ⟨by rw [r1.length]; exact c, fun t ht => ?_⟩
    have al : Alc G1 H1 (upd G1 t (.tup vs)) (upd H1 t (.tup vs)) := Alc.put x1.sub ht
    exact z _ _ _ (x1.trans (al.ext x1.tab)) (y1.alc al) (.tup upd_same (r1.mono al.gro))
  · exact z.elim
def mLst (r : AM) : AM := fun env p => (r env p).bind fun ds q => if ds.length ≤ sizeLine then .ok ds q else .bad
theorem pm_lst (h : PA X es (rA C W r)) : PE X (.List es pos) (rF C W (mLst r)) := (pe_lst h).of fun σ H Q ⟨G, env, p, L, o⟩ => by
  refine ⟨G, env, p, L, o.bind.imp (fun ds q z vs G1 H1 x1 y1 r1 => ?_) fun _ _ z => z⟩
  split at z
  · rename_i c
    refine ⟨by rw [r1.length]; exact c, fun t ht => ?_⟩
    have al : Alc G1 H1 G1 (upd H1 t (.lst vs)) := Alc.own x1.sub ht
    exact z t vs _ _ (x1.trans (al.ext x1.tab)) (y1.alc al) (x1.fre _ ht) (free_of x1.sub ht) upd_same r1
  · exact z.elim
/-- {} -/
theorem pm_dict0 : PE X (.Dict [] [] pos) (rE C W (mC (.dct []))) := pe_dnewK.of fun σ H Q ⟨G, env, p, L, o⟩ t ht => by
  have al : Alc G H (upd G t (.dK [])) (upd H t (.dK [])) := Alc.put L.sub ht
  exact o _ _ _ (L.ext al) (L.pen.alc al) (.dct upd_same .nil)
end

/-! ### calls of built-ins -/
def CallOk (C : Ctx) (r : List V → Hp → VK → Prop) (k : List D → Option D) : Prop := ∀ (G H : Hp) (σ : St) (env : Env) (p : Pen) (vs : List V) (ds : List D) (z : D) (Q : VK), LOk C G H σ env p → BReps C G σ env vs ds → k ds = some z →
  (∀ x G' H', Alc G H G' H' → Rep C G' x z → Q x H') → r vs H Q
def FCallOk (C : Ctx) (r : List V → Hp → VK → Prop) (k : List D → Option (List D)) : Prop := ∀ (G H : Hp) (σ : St) (env : Env) (p : Pen) (vs : List V) (ds z : List D) (Q : VK), LOk C G H σ env p → BReps C G σ env vs ds → k ds = some z →
  (∀ l ws, H l = none → Reps C G ws z → Q (.ref l) (upd H l (.lst ws))) → r vs H Q
def mCall (k : List D → Option D) (a : AM) : EM := fun env p => (a env p).bind fun ds q => match k ds with
  | some z => .ok z q
  | none => .bad
def mFCall (k : List D → Option (List D)) (a : AM) : AM := fun env p => (a env p).bind fun ds q => match k ds with
  | some z => .ok z q
  | none => .bad
section
variable {X : Cx} {C : Ctx} {W : WX} {e : Expr} {es : List Expr} {a : AM} {pos p : Pos} {x : Str} {r : List V → Hp → VK → Prop}
theorem rd_call {k : List D → Option D} (hk : CallOk C r k) {σ : St} {H : Hp} {Q : VK} (h : rE C W (mCall k a) σ H Q) : tCB r (rAB C W a) σ H Q := by
  obtain ⟨G, env, p, L, o⟩ := h
  refine ⟨G, env, p, L, o.bind.imp (fun ds q z vs G1 H1 x1 y1 r1 => ?_) fun _ _ z => z⟩
  cases ek : k ds with
  | none =>
    rw [ek] at z
    exact z.elim
  | some u =>
    rw [ek] at z
    have L1 := L.step x1 y1
    exact hk G1 H1 σ env q vs ds u Q L1 r1 ek fun x G' H' al rx => z x G' H' (x1.trans (L1.ext al)) (y1.alc al) rx
theorem rd_fcall {k : List D → Option (List D)} (hk : FCallOk C r k) {σ : St} {H : Hp} {Q : VK} (h : rF C W (mFCall k a) σ H Q) : tCB r (rAB C W a) σ H Q := by
  obtain ⟨G, env, p, L, o⟩ := h
  refine ⟨G, env, p, L, o.bind.imp (fun ds q z vs G1 H1 x1 y1 r1 => ?_) fun _ _ z => z⟩
  cases ek : k ds with
  | none =>
    rw [ek] at z
    exact z.elim
  | some u =>
    rw [ek] at z
    have L1 := L.step x1 y1
    refine hk G1 H1 σ env q vs ds u Q L1 r1 ek fun l ws hl rw' => ?_
    have al : Alc G1 H1 G1 (upd H1 l (.lst ws)) := Alc.own L1.sub hl
    exact z l ws _ _ (x1.trans (L1.ext al)) (y1.alc al) (x1.fre _ hl) (free_of L1.sub hl) upd_same rw'
/-- f(..), f a built-in function -/
theorem pm_cb {id : String} {k : List D → Option D} (hk : CallOk C r k) (hc : CallR X (.builtin id) r) (hm : X.mg x = none) (hv : bootBuiltins x = some (.builtin id)) (ha : PA X (e :: es) (rAB C W a)) (hg : Gl X x := by rfl) (hn : x ≠ "__name__" := by decide) (hdb : (x == ("__debug__" : Str)) = false := by decide)
    (he : starEach (e :: es) X.env = (false, eval e X.env) :: starEach es X.env := by rfl) (hpl : (backTo pos (starEach es X.env)).any (·.1) = false := by rfl) : PE X (.Call (.Name x p) (e :: es) [] pos) (rE C W (mCall k a)) := (pe_callB hc hg hm hv ha hn hdb he hpl).of fun _ _ _ h => rd_call hk h
/-- T(..), T a built-in class -/
theorem pm_ct {T : String} {k : List D → Option D} (hk : CallOk C r k) (hc : CallR X (.type T) r) (hm : X.mg x = none) (hv : bootBuiltins x = some (.type T)) (ha : PA X (e :: es) (rAB C W a)) (hg : Gl X x := by rfl) (hn : x ≠ "__name__" := by decide) (hdb : (x == ("__debug__" : Str)) = false := by decide)
    (he : starEach (e :: es) X.env = (false, eval e X.env) :: starEach es X.env := by rfl) (hpl : (backTo pos (starEach es X.env)).any (·.1) = false := by rfl) : PE X (.Call (.Name x p) (e :: es) [] pos) (rE C W (mCall k a)) := (pe_callTy hc hg hm hv ha hn hdb he hpl).of fun _ _ _ h => rd_call hk h
theorem pm_ctF {T : String} {k : List D → Option (List D)} (hk : FCallOk C r k) (hc : CallR X (.type T) r) (hm : X.mg x = none) (hv : bootBuiltins x = some (.type T)) (ha : PA X (e :: es) (rAB C W a)) (hg : Gl X x := by rfl) (hn : x ≠ "__name__" := by decide) (hdb : (x == ("__debug__" : Str)) = false := by decide)
    (he : starEach (e :: es) X.env = (false, eval e X.env) :: starEach es X.env := by rfl) (hpl : (backTo pos (starEach es X.env)).any (·.1) = false := by rfl) : PE X (.Call (.Name x p) (e :: es) [] pos) (rF C W (mFCall k a)) := (pe_callTy hc hg hm hv ha hn hdb he hpl).of fun _ _ _ h => rd_fcall hk h
theorem pm_cbF {id : String} {k : List D → Option (List D)} (hk : FCallOk C r k) (hc : CallR X (.builtin id) r) (hm : X.mg x = none) (hv : bootBuiltins x = some (.builtin id)) (ha : PA X (e :: es) (rAB C W a)) (hg : Gl X x := by rfl) (hn : x ≠ "__name__" := by decide) (hdb : (x == ("__debug__" : Str)) = false := by decide)
    (he : starEach (e :: es) X.env = (false, eval e X.env) :: starEach es X.env := by rfl) (hpl : (backTo pos (starEach es X.env)).any (·.1) = false := by rfl) : PE X (.Call (.Name x p) (e :: es) [] pos) (rF C W (mFCall k a)) := (pe_callB hc hg hm hv ha hn hdb he hpl).of fun _ _ _ h => rd_fcall hk h
end
end Pu
end

section
set_option maxHeartbeats 2000000
namespace Pu
open PySem PySem.Spec PyProof.Rows L2

/-! ### lists of ints, of bools among the data -/
def D.toInt : D → Option Int
  | .int i => some i
  | _ => none
def D.toBl : D → Option Bool
  | .bl b => some b
  | _ => none
def intsD : List D → Option (List Int)
  | [] => some []
  | d :: ds => match d.toInt, intsD ds with
    | some i, some r => some (i :: r)
    | _, _ => none
def blsD : List D → Option (List Bool)
  | [] => some []
  | d :: ds => match d.toBl, blsD ds with
    | some i, some r => some (i :: r)
    | _, _ => none
theorem intsD_map : ∀ ns : List Int, intsD (ns.map D.int) = some ns
  | [] => rfl
  | n :: r => by simp [intsD, D.toInt, intsD_map r]
theorem blsD_map : ∀ ns : List Bool, blsD (ns.map D.bl) = some ns
  | [] => rfl
  | n :: r => by simp [blsD, D.toBl, blsD_map r]
theorem intsD_eq : ∀ {ds : List D} {ns : List Int}, intsD ds = some ns → ds = ns.map D.int
  | [], ns, h => by
    cases h
    rfl
  | d :: ds, ns, h => by
    unfold intsD at h
    split at h
    · rename_i i r h1 h2
      cases h
      rw [intsD_eq h2]
      cases d <;> cases h1
      rfl
    · cases h
theorem blsD_eq : ∀ {ds : List D} {ns : List Bool}, blsD ds = some ns → ds = ns.map D.bl
  | [], ns, h => by
    cases h
    rfl
  | d :: ds, ns, h => by
    unfold blsD at h
    split at h
    · rename_i i r h1 h2
      cases h
      rw [blsD_eq h2]
      cases d <;> cases h1
      rfl
    · cases h

/-! ### the built-ins -/
section
variable {C : Ctx} {K : PySem.W.Frag} {G : Hp} {σ : St} {env : Env}
theorem BReps.one {vs : List V} {d : D} (h : BReps C G σ env vs [d]) : ∃ v, vs = [v] ∧ BRep C G σ env v d := by
  cases h with
  | cons h t =>
    cases t
    exact ⟨_, rfl, h⟩
theorem BReps.two {vs : List V} {d e : D} (h : BReps C G σ env vs [d, e]) : ∃ v w, vs = [v, w] ∧ BRep C G σ env v d ∧ BRep C G σ env w e := by
  cases h with
  | cons h t =>
    cases t with
    | cons h2 t =>
      cases t
      exact ⟨_, _, rfl, h, h2⟩
end
def kLen : List D → Option D
  | [.lst xs] => some (.int xs.length)
  | [.tup xs] => some (.int xs.length)
  | _ => none
theorem ok_len {C : Ctx} {K : PySem.W.Frag} : CallOk C (fun xs H Q => ∃ p ys, xs = [.ref p] ∧ (SqL K H p ys ∨ SqT K H p ys) ∧ Q (.int ys.length) H) kLen := by
  intro G H σ env p vs ds z Q L r ek q
  have key : ∀ (d : D) (xs : List D), ds = [d] → (d = .lst xs ∨ d = .tup xs) → z = .int xs.length → ∃ p ys, vs = [.ref p] ∧ (SqL K H p ys ∨ SqT K H p ys) ∧ Q (.int ys.length) H := by
    intro d xs e1 e2 e3
    subst e1 e3
    obtain ⟨v, rfl, rv⟩ := r.one
    obtain ⟨a, ws, rfl, hH, rs⟩ := rv.seq L e2
    refine ⟨a, ws, rfl, hH.elim (fun h => .inl (SqL.of h)) (fun h => .inr (SqT.of h)), ?_⟩
    rw [rs.length]
    exact q _ G H (Alc.refl L.sub) (.int _)
  unfold kLen at ek
  split at ek
  · cases ek
    exact key _ _ rfl (.inl rfl) rfl
  · cases ek
    exact key _ _ rfl (.inr rfl) rfl
  · cases ek
def kAbs : List D → Option D
  | [.int i] => some (.int (if i < 0 then -i else i))
  | _ => none
theorem ok_abs {C : Ctx} : CallOk C (fun xs H Q => ∃ i, xs = [.int i] ∧ Q (.int (if i < 0 then -i else i)) H) kAbs := by
  intro G H σ env p vs ds z Q L r ek q
  unfold kAbs at ek
  split at ek
  · cases ek
    obtain ⟨v, rfl, rv⟩ := r.one
    rw [rv.int]
    exact ⟨_, rfl, q _ G H (Alc.refl L.sub) (.int _)⟩
  · cases ek
def kMax2 : List D → Option D
  | [.int i, .int j] => some (.int (if j > i then j else i))
  | _ => none
theorem ok_max2 {C : Ctx} : CallOk C (fun xs H Q => ∃ i j, xs = [.int i, .int j] ∧ Q (.int (if j > i then j else i)) H) kMax2 := by
  intro G H σ env p vs ds z Q L r ek q
  unfold kMax2 at ek
  split at ek
  · cases ek
    obtain ⟨v, w, rfl, rv, rw'⟩ := r.two
    rw [rv.int, rw'.int]
    exact ⟨_, _, rfl, q _ G H (Alc.refl L.sub) (.int _)⟩
  · cases ek
def kMin2 : List D → Option D
  | [.int i, .int j] => some (.int (if j < i then j else i))
  | _ => none
theorem ok_min2 {C : Ctx} : CallOk C (fun xs H Q => ∃ i j, xs = [.int i, .int j] ∧ Q (.int (if j < i then j else i)) H) kMin2 := by
  intro G H σ env p vs ds z Q L r ek q
  unfold kMin2 at ek
  split at ek
  · cases ek
    obtain ⟨v, w, rfl, rv, rw'⟩ := r.two
    rw [rv.int, rw'.int]
    exact ⟨_, _, rfl, q _ G H (Alc.refl L.sub) (.int _)⟩
  · cases ek
def kInt1 : List D → Option D
  | [.int i] => some (.int i)
  | [.bl b] => some (.int (if b = true then 1 else 0))
  | _ => none
theorem ok_int1 {C : Ctx} : CallOk C (fun xs H Q => (∃ i, xs = [.int i] ∧ Q (.int i) H) ∨ ∃ k : Bool, xs = [.bl k] ∧ Q (.int (if k then 1 else 0)) H) kInt1 := by
  intro G H σ env p vs ds z Q L r ek q
  unfold kInt1 at ek
  split at ek
  · cases ek
    obtain ⟨v, rfl, rv⟩ := r.one
    rw [rv.int]
    exact .inl ⟨_, rfl, q _ G H (Alc.refl L.sub) (.int _)⟩
  · cases ek
    obtain ⟨v, rfl, rv⟩ := r.one
    rw [rv.bl]
    exact .inr ⟨_, rfl, q _ G H (Alc.refl L.sub) (.int _)⟩
  · cases ek
def kGcd : List D → Option D
  | [.int i, .int j] => some (.int (Nat.gcd i.natAbs j.natAbs : Nat))
  | _ => none
theorem ok_gcd {C : Ctx} : CallOk C rGcd kGcd := by
  intro G H σ env p vs ds z Q L r ek q
  unfold kGcd at ek
  split at ek
  · cases ek
    obtain ⟨v, w, rfl, rv, rw'⟩ := r.two
    rw [rv.int, rw'.int]
    exact ⟨_, _, rfl, q _ G H (Alc.refl L.sub) (.int _)⟩
  · cases ek
/-- a list of ints -/
def kInts (f : List Int → Option D) : List D → Option D
  | [.lst xs] => match intsD xs with
    | some ns => f ns
    | none => none
  | _ => none
def kBls (f : List Bool → Option D) : List D → Option D
  | [.lst xs] => match blsD xs with
    | some ns => f ns
    | none => none
  | _ => none
theorem kInts_inv {f : List Int → Option D} {ds : List D} {z : D} (h : kInts f ds = some z) : ∃ ns : List Int, ds = [.lst (ns.map D.int)] ∧ f ns = some z := by
  unfold kInts at h
  split at h
  · split at h
    · rename_i xs _ ns e
      exact ⟨ns, by rw [intsD_eq e], h⟩
    · cases h
  · cases h
theorem kBls_inv {f : List Bool → Option D} {ds : List D} {z : D} (h : kBls f ds = some z) : ∃ ns : List Bool, ds = [.lst (ns.map D.bl)] ∧ f ns = some z := by
  unfold kBls at h
  split at h
  · split at h
    · rename_i xs _ ns e
      exact ⟨ns, by rw [blsD_eq e], h⟩
    · cases h
  · cases h
theorem ok_sum {C : Ctx} {K : PySem.W.Frag} : CallOk C (rSum K) (kInts fun ns => some (.int ns.sum)) := by
  intro G H σ env p vs ds z Q L r ek q
  obtain ⟨ns, rfl, e⟩ := kInts_inv ek
  cases e
  obtain ⟨v, rfl, rv⟩ := r.one
  obtain ⟨a, ws, rfl, hH, rs⟩ := rv.lst L
  rw [Reps.of_ints rs] at hH
  exact ⟨a, ns, rfl, SqL.of hH, q _ G H (Alc.refl L.sub) (.int _)⟩
theorem ok_all {C : Ctx} {K : PySem.W.Frag} : CallOk C (rAll K) (kBls fun bs => some (.bl (bs.all id))) := by
  intro G H σ env p vs ds z Q L r ek q
  obtain ⟨ns, rfl, e⟩ := kBls_inv ek
  cases e
  obtain ⟨v, rfl, rv⟩ := r.one
  obtain ⟨a, ws, rfl, hH, rs⟩ := rv.lst L
  rw [Reps.of_bls rs] at hH
  exact ⟨a, ns, rfl, SqL.of hH, q _ G H (Alc.refl L.sub) (.bl _)⟩
theorem ok_any {C : Ctx} {K : PySem.W.Frag} : CallOk C (rAny K) (kBls fun bs => some (.bl (bs.any id))) := by
  intro G H σ env p vs ds z Q L r ek q
  obtain ⟨ns, rfl, e⟩ := kBls_inv ek
  cases e
  obtain ⟨v, rfl, rv⟩ := r.one
  obtain ⟨a, ws, rfl, hH, rs⟩ := rv.lst L
  rw [Reps.of_bls rs] at hH
  exact ⟨a, ns, rfl, SqL.of hH, q _ G H (Alc.refl L.sub) (.bl _)⟩
def maxL : List Int → Option Int
  | [] => none
  | x :: xs => some (xs.foldl (fun a b => if b > a then b else a) x)
def minL : List Int → Option Int
  | [] => none
  | x :: xs => some (xs.foldl (fun a b => if b < a then b else a) x)
theorem foldl_max (xs : List Int) : ∀ x, (xs.foldl (fun a b => if b > a then b else a) x = x ∨ xs.foldl (fun a b => if b > a then b else a) x ∈ xs) ∧ x ≤ xs.foldl (fun a b => if b > a then b else a) x ∧ ∀ y ∈ xs, y ≤ xs.foldl (fun a b => if b > a then b else a) x := by
  induction xs with
  | nil => intro x; exact ⟨.inl rfl, Int.le_refl _, fun y hy => by cases hy⟩
  | cons a r ih =>
    intro x
    rw [List.foldl_cons]
    obtain ⟨h1, h2, h3⟩ := ih (if a > x then a else x)
    have hx : x ≤ (if a > x then a else x) ∧ a ≤ (if a > x then a else x) := by split <;> omega
    refine ⟨?_, Int.le_trans hx.1 h2, fun y hy => ?_⟩
    · rcases h1 with h1 | h1
      · rw [h1]
        by_cases c : a > x
        · rw [if_pos c]
          exact .inr List.mem_cons_self
        · rw [if_neg c]
          exact .inl rfl
      · exact .inr (List.mem_cons_of_mem _ h1)
    · rcases List.mem_cons.mp hy with rfl | hy
      · exact Int.le_trans hx.2 h2
      · exact h3 y hy
theorem foldl_min (xs : List Int) : ∀ x, (xs.foldl (fun a b => if b < a then b else a) x = x ∨ xs.foldl (fun a b => if b < a then b else a) x ∈ xs) ∧ xs.foldl (fun a b => if b < a then b else a) x ≤ x ∧ ∀ y ∈ xs, xs.foldl (fun a b => if b < a then b else a) x ≤ y := by
  induction xs with
  | nil => intro x; exact ⟨.inl rfl, Int.le_refl _, fun y hy => by cases hy⟩
  | cons a r ih =>
    intro x
    rw [List.foldl_cons]
    obtain ⟨h1, h2, h3⟩ := ih (if a < x then a else x)
    have hx : (if a < x then a else x) ≤ x ∧ (if a < x then a else x) ≤ a := by split <;> omega
    refine ⟨?_, Int.le_trans h2 hx.1, fun y hy => ?_⟩
    · rcases h1 with h1 | h1
      · rw [h1]
        by_cases c : a < x
        · rw [if_pos c]
          exact .inr List.mem_cons_self
        · rw [if_neg c]
          exact .inl rfl
      · exact .inr (List.mem_cons_of_mem _ h1)
    · rcases List.mem_cons.mp hy with rfl | hy
      · exact Int.le_trans h2 hx.2
      · exact h3 y hy
theorem maxL_spec {ns : List Int} {m : Int} (h : maxL ns = some m) : m ∈ ns ∧ ∀ y ∈ ns, y ≤ m := by
  cases ns with
  | nil => cases h
  | cons x xs =>
    cases h
    obtain ⟨h1, h2, h3⟩ := foldl_max xs x
    refine ⟨?_, fun y hy => ?_⟩
    · rcases h1 with h1 | h1
      · rw [h1]
        exact List.mem_cons_self
      · exact List.mem_cons_of_mem _ h1
    · rcases List.mem_cons.mp hy with rfl | hy
      · exact h2
      · exact h3 y hy
theorem minL_spec {ns : List Int} {m : Int} (h : minL ns = some m) : m ∈ ns ∧ ∀ y ∈ ns, m ≤ y := by
  cases ns with
  | nil => cases h
  | cons x xs =>
    cases h
    obtain ⟨h1, h2, h3⟩ := foldl_min xs x
    refine ⟨?_, fun y hy => ?_⟩
    · rcases h1 with h1 | h1
      · rw [h1]
        exact List.mem_cons_self
      · exact List.mem_cons_of_mem _ h1
    · rcases List.mem_cons.mp hy with rfl | hy
      · exact h2
      · exact h3 y hy
theorem ok_maxL {C : Ctx} {K : PySem.W.Frag} : CallOk C (rMax K) (kInts fun ns => (maxL ns).map D.int) := by
  intro G H σ env p vs ds z Q L r ek q
  obtain ⟨ns, rfl, e⟩ := kInts_inv ek
  cases em : maxL ns with
  | none =>
    rw [em] at e
    cases e
  | some m =>
    rw [em] at e
    cases e
    obtain ⟨v, rfl, rv⟩ := r.one
    obtain ⟨a, ws, rfl, hH, rs⟩ := rv.lst L
    rw [Reps.of_ints rs] at hH
    obtain ⟨h1, h2⟩ := maxL_spec em
    refine ⟨a, ns, rfl, SqL.of hH, List.length_pos_of_mem h1, fun m' h3 h4 => ?_⟩
    have e : m' = m := Int.le_antisymm (h2 m' h3) (h4 m h1)
    subst e
    exact q _ G H (Alc.refl L.sub) (.int _)
theorem ok_minL {C : Ctx} {K : PySem.W.Frag} : CallOk C (rMin K) (kInts fun ns => (minL ns).map D.int) := by
  intro G H σ env p vs ds z Q L r ek q
  obtain ⟨ns, rfl, e⟩ := kInts_inv ek
  cases em : minL ns with
  | none =>
    rw [em] at e
    cases e
  | some m =>
    rw [em] at e
    cases e
    obtain ⟨v, rfl, rv⟩ := r.one
    obtain ⟨a, ws, rfl, hH, rs⟩ := rv.lst L
    rw [Reps.of_ints rs] at hH
    obtain ⟨h1, h2⟩ := minL_spec em
    refine ⟨a, ns, rfl, SqL.of hH, List.length_pos_of_mem h1, fun m' h3 h4 => ?_⟩
    have e : m' = m := Int.le_antisymm (h4 m h1) (h2 m' h3)
    subst e
    exact q _ G H (Alc.refl L.sub) (.int _)
/-- tuple(x) -/
def kTuple : List D → Option D
  | [.lst xs] => some (.tup xs)
  | [.tup xs] => some (.tup xs)
  | _ => none
theorem ok_tuple {C : Ctx} {K : PySem.W.Frag} : CallOk C (fun xs H Q => ∃ p ys, xs = [.ref p] ∧ ((SqL K H p ys ∧ ∀ l, H l = none → Q (.ref l) (upd H l (.tup ys))) ∨ (SqT K H p ys ∧ Q (.ref p) H))) kTuple := by
  intro G H σ env p vs ds z Q L r ek q
  unfold kTuple at ek
  split at ek
  · cases ek
    obtain ⟨v, rfl, rv⟩ := r.one
    obtain ⟨a, ws, rfl, hH, rs⟩ := rv.lst L
    refine ⟨a, ws, rfl, .inl ⟨SqL.of hH, fun t ht => ?_⟩⟩
    have al : Alc G H (upd G t (.tup ws)) (upd H t (.tup ws)) := Alc.put L.sub ht
    exact q _ _ _ al (.tup upd_same (rs.mono al.gro))
  · cases ek
    obtain ⟨v, rfl, rv⟩ := r.one
    obtain ⟨a, ws, rfl, hG, rs⟩ := rv.tup
    exact ⟨a, ws, rfl, .inr ⟨SqT.of (L.sub _ _ hG), q _ G H (Alc.refl L.sub) (.tup hG rs)⟩⟩
  · cases ek
/-- list(x) -/
def kList : List D → Option (List D)
  | [.lst xs] => some xs
  | [.tup xs] => some xs
  | _ => none
theorem ok_list {C : Ctx} {K : PySem.W.Frag} : FCallOk C (fun xs H Q => ∃ p ys, xs = [.ref p] ∧ (SqL K H p ys ∨ SqT K H p ys) ∧ ∀ l, H l = none → Q (.ref l) (upd H l (.lst ys))) kList := by
  intro G H σ env p vs ds z Q L r ek q
  have key : ∀ (d : D), ds = [d] → (d = .lst z ∨ d = .tup z) → ∃ p ys, vs = [.ref p] ∧ (SqL K H p ys ∨ SqT K H p ys) ∧ ∀ l, H l = none → Q (.ref l) (upd H l (.lst ys)) := by
    intro d e1 e2
    subst e1
    obtain ⟨v, rfl, rv⟩ := r.one
    obtain ⟨a, ws, rfl, hH, rs⟩ := rv.seq L e2
    exact ⟨a, ws, rfl, hH.elim (fun h => .inl (SqL.of h)) (fun h => .inr (SqT.of h)), fun l hl => q l ws hl rs⟩
  unfold kList at ek
  split at ek
  · cases ek
    exact key _ rfl (.inl rfl)
  · cases ek
    exact key _ rfl (.inr rfl)
  · cases ek

section
variable {X : Cx} {C : Ctx} {W : WX} {e e2 : Expr} {a : AM} {m m2 : EM} {pos p : Pos}
theorem pm_len (hm : X.mg "len" = none) (h : PE X e (rB C W m)) (hg : Gl X "len" := by rfl) (hs : starEach [e] X.env = (false, eval e X.env) :: starEach [] X.env := by rfl) (hpl : (backTo pos (starEach [] X.env)).any (·.1) = false := by rfl) : PE X (.Call (.Name "len" p) [e] [] pos) (rE C W (mCall kLen (aCons m aNil))) :=
  pm_cb ok_len call_len_seq hm PySem.boot_len (bm_cons h bm_nil hs) hg (by decide) (by decide) hs hpl
theorem pm_abs (hm : X.mg "abs" = none) (h : PE X e (rB C W m)) (hg : Gl X "abs" := by rfl) (hs : starEach [e] X.env = (false, eval e X.env) :: starEach [] X.env := by rfl) (hpl : (backTo pos (starEach [] X.env)).any (·.1) = false := by rfl) : PE X (.Call (.Name "abs" p) [e] [] pos) (rE C W (mCall kAbs (aCons m aNil))) :=
  pm_cb ok_abs call_abs hm boot_abs (bm_cons h bm_nil hs) hg (by decide) (by decide) hs hpl
theorem pm_int1 (hm : X.mg "int" = none) (h : PE X e (rB C W m)) (hg : Gl X "int" := by rfl) (hs : starEach [e] X.env = (false, eval e X.env) :: starEach [] X.env := by rfl) (hpl : (backTo pos (starEach [] X.env)).any (·.1) = false := by rfl) : PE X (.Call (.Name "int" p) [e] [] pos) (rE C W (mCall kInt1 (aCons m aNil))) :=
  pm_ct ok_int1 call_int1 hm boot_int (bm_cons h bm_nil hs) hg (by decide) (by decide) hs hpl
theorem pm_sum (hc : X.calm = true) (hm : X.mg "sum" = none) (h : PE X e (rB C W m)) (hg : Gl X "sum" := by rfl) (hs : starEach [e] X.env = (false, eval e X.env) :: starEach [] X.env := by rfl) (hpl : (backTo pos (starEach [] X.env)).any (·.1) = false := by rfl) : PE X (.Call (.Name "sum" p) [e] [] pos) (rE C W (mCall (kInts fun ns => some (.int ns.sum)) (aCons m aNil))) :=
  pm_cb ok_sum (cr_sum hc) hm boot_sum (bm_cons h bm_nil hs) hg (by decide) (by decide) hs hpl
theorem pm_all (hc : X.calm = true) (hm : X.mg "all" = none) (h : PE X e (rB C W m)) (hg : Gl X "all" := by rfl) (hs : starEach [e] X.env = (false, eval e X.env) :: starEach [] X.env := by rfl) (hpl : (backTo pos (starEach [] X.env)).any (·.1) = false := by rfl) : PE X (.Call (.Name "all" p) [e] [] pos) (rE C W (mCall (kBls fun bs => some (.bl (bs.all id))) (aCons m aNil))) :=
  pm_cb ok_all (cr_all hc) hm boot_all (bm_cons h bm_nil hs) hg (by decide) (by decide) hs hpl
theorem pm_any (hc : X.calm = true) (hm : X.mg "any" = none) (h : PE X e (rB C W m)) (hg : Gl X "any" := by rfl) (hs : starEach [e] X.env = (false, eval e X.env) :: starEach [] X.env := by rfl) (hpl : (backTo pos (starEach [] X.env)).any (·.1) = false := by rfl) : PE X (.Call (.Name "any" p) [e] [] pos) (rE C W (mCall (kBls fun bs => some (.bl (bs.any id))) (aCons m aNil))) :=
  pm_cb ok_any (cr_any hc) hm boot_any (bm_cons h bm_nil hs) hg (by decide) (by decide) hs hpl
theorem pm_maxL (hc : X.calm = true) (hm : X.mg "max" = none) (h : PE X e (rB C W m)) (hg : Gl X "max" := by rfl) (hs : starEach [e] X.env = (false, eval e X.env) :: starEach [] X.env := by rfl) (hpl : (backTo pos (starEach [] X.env)).any (·.1) = false := by rfl) : PE X (.Call (.Name "max" p) [e] [] pos) (rE C W (mCall (kInts fun ns => (maxL ns).map D.int) (aCons m aNil))) :=
  pm_cb ok_maxL (cr_max hc) hm boot_max (bm_cons h bm_nil hs) hg (by decide) (by decide) hs hpl
theorem pm_minL (hc : X.calm = true) (hm : X.mg "min" = none) (h : PE X e (rB C W m)) (hg : Gl X "min" := by rfl) (hs : starEach [e] X.env = (false, eval e X.env) :: starEach [] X.env := by rfl) (hpl : (backTo pos (starEach [] X.env)).any (·.1) = false := by rfl) : PE X (.Call (.Name "min" p) [e] [] pos) (rE C W (mCall (kInts fun ns => (minL ns).map D.int) (aCons m aNil))) :=
  pm_cb ok_minL (cr_min hc) hm boot_min (bm_cons h bm_nil hs) hg (by decide) (by decide) hs hpl
theorem pm_max2 (hc : X.calm = true) (hm : X.mg "max" = none) (h : PE X e (rB C W m)) (h2 : PE X e2 (rB C W m2)) (hg : Gl X "max" := by rfl) (hs : starEach [e, e2] X.env = (false, eval e X.env) :: starEach [e2] X.env := by rfl) (hs2 : starEach [e2] X.env = (false, eval e2 X.env) :: starEach [] X.env := by rfl) (hpl : (backTo pos (starEach [e2] X.env)).any (·.1) = false := by rfl) :
    PE X (.Call (.Name "max" p) [e, e2] [] pos) (rE C W (mCall kMax2 (aCons m (aCons m2 aNil)))) := pm_cb ok_max2 (call_max2 hc) hm boot_max (bm_cons h (bm_cons h2 bm_nil hs2) hs) hg (by decide) (by decide) hs hpl
theorem pm_min2 (hc : X.calm = true) (hm : X.mg "min" = none) (h : PE X e (rB C W m)) (h2 : PE X e2 (rB C W m2)) (hg : Gl X "min" := by rfl) (hs : starEach [e, e2] X.env = (false, eval e X.env) :: starEach [e2] X.env := by rfl) (hs2 : starEach [e2] X.env = (false, eval e2 X.env) :: starEach [] X.env := by rfl) (hpl : (backTo pos (starEach [e2] X.env)).any (·.1) = false := by rfl) :
    PE X (.Call (.Name "min" p) [e, e2] [] pos) (rE C W (mCall kMin2 (aCons m (aCons m2 aNil)))) := pm_cb ok_min2 (call_min2 hc) hm boot_min (bm_cons h (bm_cons h2 bm_nil hs2) hs) hg (by decide) (by decide) hs hpl
theorem pm_gcd {x : Str} (hm : X.mg x = some (.builtin "math.gcd")) (h : PE X e (rB C W m)) (h2 : PE X e2 (rB C W m2)) (hg : Gl X x := by rfl) (hd : (x == ("__debug__" : Str)) = false := by decide) (hs : starEach [e, e2] X.env = (false, eval e X.env) :: starEach [e2] X.env := by rfl) (hs2 : starEach [e2] X.env = (false, eval e2 X.env) :: starEach [] X.env := by rfl) (hpl : (backTo pos (starEach [e2] X.env)).any (·.1) = false := by rfl) :
    PE X (.Call (.Name x p) [e, e2] [] pos) (rE C W (mCall kGcd (aCons m (aCons m2 aNil)))) := (pe_callBfun cr_gcd hg hm (bm_cons h (bm_cons h2 bm_nil hs2) hs) hd hs hpl).of fun _ _ _ h => rd_call ok_gcd h
theorem pm_tuple (hm : X.mg "tuple" = none) (h : PE X e (rB C W m)) (hg : Gl X "tuple" := by rfl) (hs : starEach [e] X.env = (false, eval e X.env) :: starEach [] X.env := by rfl) (hpl : (backTo pos (starEach [] X.env)).any (·.1) = false := by rfl) : PE X (.Call (.Name "tuple" p) [e] [] pos) (rE C W (mCall kTuple (aCons m aNil))) :=
  pm_ct ok_tuple call_tuple_of hm boot_tuple (bm_cons h bm_nil hs) hg (by decide) (by decide) hs hpl
theorem pm_list (hm : X.mg "list" = none) (h : PE X e (rB C W m)) (hg : Gl X "list" := by rfl) (hs : starEach [e] X.env = (false, eval e X.env) :: starEach [] X.env := by rfl) (hpl : (backTo pos (starEach [] X.env)).any (·.1) = false := by rfl) : PE X (.Call (.Name "list" p) [e] [] pos) (rF C W (mFCall kList (aCons m aNil))) :=
  pm_ctF ok_list call_list_of hm boot_list (bm_cons h bm_nil hs) hg (by decide) (by decide) hs hpl
end
end Pu
end

section
set_option maxHeartbeats 2000000
namespace Pu
open PySem PySem.Spec PyProof.Rows L2

/-! ### subscripts -/
theorem Reps.atI {C : Ctx} {G : Hp} {vs : List V} {ds : List D} {i : Int} {d : D} (h : Reps C G vs ds) (e : L2.atI ds i = some d) : ∃ v, L2.atI vs i = some v ∧ Rep C G v d := by
  unfold L2.atI at e ⊢
  rw [h.length]
  cases ej : ixN ds.length i with
  | none =>
    rw [ej] at e
    cases e
  | some j =>
    rw [ej] at e
    exact h.getR (i := j) e
def kIx (d e : D) : Option D := match d.items, e with
  | some xs, .int i => L2.atI xs i
  | _, _ => none
theorem ok_ix {C : Ctx} {K : PySem.W.Frag} : OpOk C (rIx K) kIx := by
  intro G H σ env p v w d e z Q L rv rw' ek q
  unfold kIx at ek
  split at ek
  · rename_i xs i hxs
    rw [rw'.int]
    rcases D.items_or hxs with e1 | e1
    · subst e1
      obtain ⟨a, vs, rfl, hH, rs⟩ := rv.lst L
      obtain ⟨u, h1, h2⟩ := rs.atI ek
      exact .inl ⟨a, vs, i, u, rfl, rfl, SqL.of hH, h1, q _ G H (Alc.refl L.sub) h2⟩
    · subst e1
      obtain ⟨a, vs, rfl, hG, rs⟩ := rv.tup
      obtain ⟨u, h1, h2⟩ := rs.atI ek
      exact .inr (.inl ⟨a, vs, i, u, rfl, rfl, SqT.of (L.sub _ _ hG), h1, q _ G H (Alc.refl L.sub) h2⟩)
  · cases ek
section
variable {X : Cx} {C : Ctx} {W : WX} {a b : Expr} {ma mb : EM} {pos : Pos}
theorem pm_ix (ha : PE X a (rB C W ma)) (hb : PE X b (rB C W mb)) (hs : PlainIx b := by exact fun _ _ => rfl) : PE X (.Subscript a b pos) (rE C W (mOp kIx ma mb)) := (pe_ix ix_seq ha hb hs).of fun _ _ _ h => rd_op ok_ix h
/-- a slice's part -/
abbrev OM := Env → Pen → Out (Option Int)
def rO (C : Ctx) (W : WX) (m : OM) : TO := fun σ H Q => ∃ G env p, LOk C G H σ env p ∧ OutP (m env p) (fun o q => ∀ G' H', Ext C G H G' H' → PenAt C G' H' q → Q o H') (ErrP C W G H σ)
def oNone : OM := fun _ p => .ok none p
def oSome (m : EM) : OM := fun env p => (m env p).bind fun d q => match d with
  | .int i => .ok (some i) q
  | _ => .bad
theorem _root_.L2.PO.of {e : Option Expr} {t t' : TO} (h : PO X e t) (i : ∀ σ H Q, t' σ H Q → t σ H Q) : PO X e t' := ⟨fun pins s σ H Q I z => h.run pins s σ H Q I (i _ _ _ z)⟩
theorem om_none : PO X none (rO C W oNone) := po_none.of fun σ H Q ⟨G, env, p, L, o⟩ => o G H (Ext.refl L.sub L.tab) L.pen
theorem om_some (h : PE X a (rB C W ma)) : PO X (some a) (rO C W (oSome ma)) := (po_some h).of fun σ H Q ⟨G, env, p, L, o⟩ => by
  refine ⟨G, env, p, L, o.bind.imp (fun d q z v G1 H1 x1 y1 r1 => ?_) fun _ _ z => z⟩
  cases d with
  | int i => exact ⟨i, r1.int, z G1 H1 x1 y1⟩
  | _ => exact z.elim
def cutD {α : Type} (xs : List α) (lo hi : Option Int) : List α := (xs.drop (HT.sIx xs.length 0 lo)).take (HT.sIx xs.length xs.length hi - HT.sIx xs.length 0 lo)
theorem Reps.cut {G : Hp} {vs : List V} {ds : List D} (h : Reps C G vs ds) (lo hi : Option Int) : Reps C G (cutV vs lo hi) (cutD ds lo hi) := by
  unfold cutV cutD
  rw [h.length]
  exact (h.drop _).take _
/-- of a tuple; of a list, the new one frozen -/
def kSl (d : D) (lo hi : Option Int) : Option D := match d with
  | .tup xs => some (.tup (cutD xs lo hi))
  | .lst xs => some (.lst (cutD xs lo hi))
  | _ => none
def mSl (ma : EM) (ml mh : OM) : EM := fun env p => (ma env p).bind fun d p1 => (ml env p1).bind fun lo p2 => (mh env p2).bind fun hi p3 => match kSl d lo hi with
  | some z => .ok z p3
  | none => .bad
def mSlF (ma : EM) (ml mh : OM) : AM := fun env p => (ma env p).bind fun d p1 => (ml env p1).bind fun lo p2 => (mh env p2).bind fun hi p3 => match d with
  | .lst xs => .ok (cutD xs lo hi) p3
  | _ => .bad
theorem cut_whole {α : Type} (xs : List α) {lo hi : Option Int} (h : HT.sIx xs.length 0 lo = 0 ∧ HT.sIx xs.length xs.length hi = xs.length) : cutD xs lo hi = xs := by
  unfold cutD
  rw [h.1, h.2, List.drop_zero, Nat.sub_zero, List.take_length]
theorem pm_sl {lo hi : Option Expr} {ml mh : OM} {p2 : Pos} (ha : PE X a (rB C W ma)) (hl : PO X lo (rO C W ml)) (hh : PO X hi (rO C W mh)) : PE X (.Subscript a (.Slice lo hi none p2) pos) (rE C W (mSl ma ml mh)) :=
  (pe_slice (SlR.or sl_list sl_tupA) ha hl hh).of fun σ H Q ⟨G, env, p, L, o⟩ => by
    refine ⟨G, env, p, L, o.bind.imp (fun d q z v G1 H1 x1 y1 r1 => ?_) fun _ _ z => z⟩
    have L1 := L.step x1 y1
    refine ⟨G1, env, q, L1, z.bind.imp (fun l q2 z2 G2 H2 x2 y2 => ?_) fun _ _ z => z.step x1⟩
    have L2 := L1.step x2 y2
    refine ⟨G2, env, q2, L2, z2.bind.imp (fun h q3 z3 G3 H3 x3 y3 => ?_) fun _ _ z => z.step (x1.trans x2)⟩
    have L3 := L2.step x3 y3
    have x13 := (x1.trans x2).trans x3
    have r3 := (r1.mono x2.gro).mono x3.gro
    cases d with
    | tup xs =>
      obtain ⟨t, vs, rfl, hG, rs⟩ := r3.tup
      refine .inr ⟨t, vs, rfl, SqT.of (L3.sub _ _ hG), fun hw => ?_, fun _ n hn => ?_⟩
      · have hw' : HT.sIx xs.length 0 l = 0 ∧ HT.sIx xs.length xs.length h = xs.length := by rw [← rs.length]; exact hw
        exact z3 (.ref t) G3 H3 x13 y3 (by rw [cut_whole xs hw']; exact .tup hG rs)
      · have al : Alc G3 H3 (upd G3 n (.tup (cutV vs l h))) (upd H3 n (.tup (cutV vs l h))) := Alc.put L3.sub hn
        exact z3 (.ref n) _ _ (x13.trans (L3.ext al)) (y3.alc al) (.tup upd_same ((rs.cut l h).mono al.gro))
    | lst xs =>
      obtain ⟨t, vs, rfl, hH, rs⟩ := r3.lst L3
      refine .inl ⟨t, vs, rfl, SqL.of hH, fun n hn => ?_⟩
      have al : Alc G3 H3 (upd G3 n (.lst (cutV vs l h))) (upd H3 n (.lst (cutV vs l h))) := Alc.put L3.sub hn
      exact z3 (.ref n) _ _ (x13.trans (L3.ext al)) (y3.alc al) (.lst upd_same ((rs.cut l h).mono al.gro))
    | _ => exact z3.elim
theorem pm_slF {lo hi : Option Expr} {ml mh : OM} {p2 : Pos} (ha : PE X a (rB C W ma)) (hl : PO X lo (rO C W ml)) (hh : PO X hi (rO C W mh)) : PE X (.Subscript a (.Slice lo hi none p2) pos) (rF C W (mSlF ma ml mh)) :=
  (pe_slice sl_list ha hl hh).of fun σ H Q ⟨G, env, p, L, o⟩ => by
    refine ⟨G, env, p, L, o.bind.imp (fun d q z v G1 H1 x1 y1 r1 => ?_) fun _ _ z => z⟩
    have L1 := L.step x1 y1
    refine ⟨G1, env, q, L1, z.bind.imp (fun l q2 z2 G2 H2 x2 y2 => ?_) fun _ _ z => z.step x1⟩
    have L2 := L1.step x2 y2
    refine ⟨G2, env, q2, L2, z2.bind.imp (fun h q3 z3 G3 H3 x3 y3 => ?_) fun _ _ z => z.step (x1.trans x2)⟩
    have L3 := L2.step x3 y3
    have x13 := (x1.trans x2).trans x3
    have r3 := (r1.mono x2.gro).mono x3.gro
    cases d with
    | lst xs =>
      obtain ⟨t, vs, rfl, hH, rs⟩ := r3.lst L3
      refine ⟨t, vs, rfl, SqL.of hH, fun n hn => ?_⟩
      have al : Alc G3 H3 G3 (upd H3 n (.lst (cutV vs l h))) := Alc.own L3.sub hn
      exact z3 n _ _ _ (x13.trans (L3.ext al)) (y3.alc al) (x13.fre _ hn) (free_of L3.sub hn) upd_same (rs.cut l h)
    | _ => exact z3.elim

/-! ### minus, fields -/
def mNeg (m : EM) : EM := fun env p => (m env p).bind fun d q => match d with
  | .int i => .ok (.int (-i)) q
  | _ => .bad
theorem pm_neg (h : PE X a (rB C W ma)) : PE X (.UnaryOp .USub a pos) (rE C W (mNeg ma)) := (pe_un un_neg h).of fun σ H Q ⟨G, env, p, L, o⟩ => by
  refine ⟨G, env, p, L, o.bind.imp (fun d q z v G1 H1 x1 y1 r1 => ?_) fun _ _ z => z⟩
  cases d with
  | int i => exact ⟨i, r1.int, z (.int (-i)) G1 H1 x1 y1 (.int _)⟩
  | _ => exact z.elim
theorem look_put {α : Type} (f g : Str) (y : α) (fs : List (Str × α)) : ((f, y) :: fs).lookup g = if g = f then some y else fs.lookup g := by
  by_cases h : g = f
  · subst h
    simp [List.lookup]
  · have e : (g == f) = false := by simpa using h
    rw [if_neg h]
    simp [List.lookup, e]
theorem RepF.at {G : Hp} {f : Str} {d : D} : ∀ {vs : List (Str × V)} {ds : List (Str × D)}, RepF C G vs ds → ds.lookup f = some d → ∃ v, vs.lookup f = some v ∧ Rep C G v d
  | _, _, .nil, e => by cases e
  | (k, v) :: vs, (_, d') :: ds, .cons h t, e => by
    rw [look_put] at e ⊢
    by_cases c : f = k
    · rw [if_pos c] at e ⊢
      cases e
      exact ⟨v, rfl, h⟩
    · rw [if_neg c] at e ⊢
      exact RepF.at t e
theorem RepF.none {G : Hp} {f : Str} : ∀ {vs : List (Str × V)} {ds : List (Str × D)}, RepF C G vs ds → ds.lookup f = Option.none → vs.lookup f = Option.none
  | _, _, .nil, _ => rfl
  | (k, v) :: vs, (_, d') :: ds, .cons h t, e => by
    rw [look_put] at e ⊢
    by_cases c : f = k
    · rw [if_pos c] at e
      cases e
    · rw [if_neg c] at e ⊢
      exact RepF.none t e
/-- the classes named in cs have such attributes -/
def FldOk (C : Ctx) (cs : List Str) (f : Str) : Prop := ∀ c ∈ cs, ∀ cA, C.mg c = some (.ref cA) → Cls C.K cA ∧ NoAttr C.K cA f
def mFld (cs : List Str) (f : Str) (m : EM) : EM := fun env p => (m env p).bind fun d q => match d with
  | .obj c fs => if c ∈ cs then (match fs.lookup f with
    | some z => .ok z q
    | none => .bad) else .bad
  | _ => .bad
theorem pm_fld {cs : List Str} {f : Str} (hK : C.K = X.K) (hf : FldOk C cs f) (h : PE X a (rB C W ma)) (hb : attributeBase a f X.env (eval a X.env) = eval a X.env := by rfl) : PE X (.Attribute a f pos) (rE C W (mFld cs f ma)) := (pe_fld h hb).of fun σ H Q ⟨G, env, p, L, o⟩ => by
  refine ⟨G, env, p, L, o.bind.imp (fun d q z v G1 H1 x1 y1 r1 => ?_) fun _ _ z => z⟩
  cases d with
  | obj c fs =>
    have z1 : OutP (if c ∈ cs then (match fs.lookup f with
      | some z => Out.ok z q
      | none => .bad) else .bad) _ _ := z
    by_cases hc : c ∈ cs
    · rw [if_pos hc] at z1
      cases el : fs.lookup f with
      | none =>
        rw [el] at z1
        exact z1.elim
      | some u =>
        rw [el] at z1
        rcases r1 with r1 | ⟨_, _, _, _, e2, _⟩
        · cases r1 with
          | obj m hG r =>
            obtain ⟨w, h1, h2⟩ := r.at el
            obtain ⟨c1, c2⟩ := hf c hc _ m
            rw [hK] at c1 c2
            exact ⟨_, _, _, _, w, rfl, x1.sub _ _ hG, c1, c2, h1, z1 w G1 H1 x1 y1 h2⟩
        · cases e2
    · rw [if_neg hc] at z1
      exact z1.elim
  | _ => exact z.elim

/-! ### list(range(..)), tuple(range(..)) -/
def rgD (a b : Int) : List D := (List.range (b - a).toNat).map fun i => D.int (a + (i : Nat))
theorem rg_reps {G : Hp} (a b : Int) : Reps C G (rgV a b) (rgD a b) := by
  have e1 : rgV a b = ((List.range (b - a).toNat).map fun i => a + ((i : Nat) : Int)).map V.int := by
    unfold rgV
    rw [List.map_map]
    rfl
  have e2 : rgD a b = ((List.range (b - a).toNat).map fun i => a + ((i : Nat) : Int)).map D.int := by
    unfold rgD
    rw [List.map_map]
    rfl
  rw [e1, e2]
  exact Reps.ints _
abbrev RM := Env → Pen → Out (Int × Int)
def rRg (C : Ctx) (W : WX) (m : RM) : St → Hp → (Int → Int → Hp → Prop) → Prop := fun σ H Q => ∃ G env p, LOk C G H σ env p ∧ OutP (m env p) (fun o q => ∀ G' H', Ext C G H G' H' → PenAt C G' H' q → Q o.1 o.2 H') (ErrP C W G H σ)
def mRg1 (m : EM) : RM := fun env p => (m env p).bind fun d q => match d with
  | .int i => .ok (0, i) q
  | _ => .bad
def mRg2 (m m2 : EM) : RM := fun env p => (m env p).bind fun d q => (m2 env q).bind fun e q2 => match d, e with
  | .int i, .int j => .ok (i, j) q2
  | _, _ => .bad
theorem prg_of {e : Expr} {t t' : St → Hp → (Int → Int → Hp → Prop) → Prop} (h : PRg X e t) (i : ∀ σ H Q, t' σ H Q → t σ H Q) : PRg X e t' := fun pins s σ H Q I z => h pins s σ H Q I (i _ _ _ z)
theorem rg_1 {p : Pos} (hm : X.mg "range" = none) (ha : PE X a (rB C W ma)) (hg : Gl X "range" := by rfl) (na : starEach [a] X.env = (false, eval a X.env) :: starEach [] X.env := by rfl) : PRg X (.Call (.Name "range" p) [a] [] pos) (rRg C W (mRg1 ma)) :=
  prg_of (prg_1 hg hm ha na) fun σ H Q ⟨G, env, p, L, o⟩ => ⟨G, env, p, L, o.bind.imp (fun d q z v G1 H1 x1 y1 r1 => by
    cases d with
    | int i => exact ⟨i, r1.int, z G1 H1 x1 y1⟩
    | _ => exact z.elim) fun _ _ z => z⟩
theorem rg_2 {p : Pos} (hm : X.mg "range" = none) (ha : PE X a (rB C W ma)) (hb : PE X b (rB C W mb)) (hg : Gl X "range" := by rfl) (na : starEach [a, b] X.env = (false, eval a X.env) :: starEach [b] X.env := by rfl)
    (nb : starEach [b] X.env = (false, eval b X.env) :: starEach [] X.env := by rfl) (hp : (backTo pos (starEach [b] X.env)).any (·.1) = false := by rfl) : PRg X (.Call (.Name "range" p) [a, b] [] pos) (rRg C W (mRg2 ma mb)) :=
  prg_of (prg_2 hg hm ha hb na nb hp) fun σ H Q ⟨G, env, p, L, o⟩ => ⟨G, env, p, L, o.bind.imp (fun d q z v G1 H1 x1 y1 r1 => ⟨G1, env, q, L.step x1 y1, z.bind.imp (fun e q2 z2 w G2 H2 x2 y2 r2 => by
    cases d with
    | int i =>
      cases e with
      | int j => exact ⟨i, j, r1.int, r2.int, z2 G2 H2 (x1.trans x2) y2⟩
      | _ => exact z2.elim
    | _ => exact z2.elim) fun _ _ z => z.step x1⟩) fun _ _ z => z⟩
def gRg (a b : Int) : Bool := decide (-(2 ^ 62) ≤ a) && (decide (a < 2 ^ 62) && (decide (-(2 ^ 62) ≤ b) && (decide (b < 2 ^ 62) && decide ((b - a).toNat ≤ 2 ^ 24))))
theorem gRg_ok {a b : Int} (h : gRg a b = true) : RgOk a b := by
  unfold gRg at h
  simp only [Bool.and_eq_true, decide_eq_true_eq] at h
  exact ⟨h.1, h.2.1, h.2.2.1, h.2.2.2.1, h.2.2.2.2⟩
def mLRg (m : RM) : AM := fun env p => (m env p).bind fun o q => if gRg o.1 o.2 = true then .ok (rgD o.1 o.2) q else .bad
def mTRg (m : RM) : EM := fun env p => (m env p).bind fun o q => if gRg o.1 o.2 = true then .ok (.tup (rgD o.1 o.2)) q else .bad
theorem pm_listRg {m : RM} {p : Pos} (hc : X.calm = true) (hm : X.mg "list" = none) (ha : PRg X a (rRg C W m)) (hg : Gl X "list" := by rfl) (na : starEach [a] X.env = (false, eval a X.env) :: starEach [] X.env := by rfl) : PE X (.Call (.Name "list" p) [a] [] pos) (rF C W (mLRg m)) :=
  (pe_listRg hc hg hm ha na).of fun σ H Q ⟨G, env, p, L, o⟩ => by
    refine ⟨G, env, p, L, o.bind.imp (fun d q z G1 H1 x1 y1 => ?_) fun _ _ z => z⟩
    split at z
    · rename_i c
      refine ⟨gRg_ok c, fun n hn => ?_⟩
      have al : Alc G1 H1 G1 (upd H1 n (.lst (rgV d.1 d.2))) := Alc.own x1.sub hn
      exact z n _ _ _ (x1.trans (al.ext x1.tab)) (y1.alc al) (x1.fre _ hn) (free_of x1.sub hn) upd_same (rg_reps _ _)
    · exact z.elim
theorem pm_tupRg {m : RM} {p : Pos} (hc : X.calm = true) (hm : X.mg "tuple" = none) (ha : PRg X a (rRg C W m)) (hg : Gl X "tuple" := by rfl) (na : starEach [a] X.env = (false, eval a X.env) :: starEach [] X.env := by rfl) : PE X (.Call (.Name "tuple" p) [a] [] pos) (rE C W (mTRg m)) :=
  (pe_tupRg hc hg hm ha na).of fun σ H Q ⟨G, env, p, L, o⟩ => by
    refine ⟨G, env, p, L, o.bind.imp (fun d q z G1 H1 x1 y1 => ?_) fun _ _ z => z⟩
    split at z
    · rename_i c
      refine ⟨gRg_ok c, fun n hn => ?_⟩
      have al : Alc G1 H1 (upd G1 n (.tup (rgV d.1 d.2))) (upd H1 n (.tup (rgV d.1 d.2))) := Alc.put x1.sub hn
      exact z (.ref n) _ _ (x1.trans (al.ext x1.tab)) (y1.alc al) (.tup upd_same (rg_reps _ _))
    · exact z.elim
end
end Pu
end

section
set_option maxHeartbeats 2000000
namespace Pu
open PySem PySem.Spec PyProof.Rows L2

/-! ### a def's promise by its mirror -/
abbrev FM := List D → Pen → Out D
/-- called with what bears ds, it does what the mirror says -/
def spM (C : Ctx) (m : FM) (n : Nat) : Sp := fun vs H Q E => ∃ G ds p, vs.length = n ∧ Sub G H ∧ Tb C H ∧ NT C G ∧ PenAt C G H p ∧ Reps C G vs ds ∧
  OutP (m ds p) (fun d q => ∀ v G' H', Ext C G H G' H' → PenAt C G' H' q → Rep C G' v d → Q v H') (fun e q => ∀ cls dd G' H', Ext C G H G' H' → PenAt C G' H' q → ErrRep C G' H' cls dd e → E cls dd H')
/-- a promise of a def; gd: it holds where no repr runs -/
structure FnA (gd : Bool) (P : Program) (w : World) (K : PySem.W.Frag) (mg : Str → Option Value) (base : Heap) (CX : CXT) (k : Nat) (f : Addr) (fd : FuncData) (ps : List Str) (sp : Sp) : Prop where
  len : ∀ vs H Q E, sp vs H Q E → vs.length = ps.length
  run : ∀ (A : Around) (outer : List PySem.Env) (s : Shared) (H : Hp) (args : Args) (us : List Value) (vs : List V) (Q : VK) (E : XK), Room k A → (gd = true → A.guards = some []) → Env0 P w K mg base A outer s H → BindsTo s fd args (ps.zip us) → Vals vs us → sp vs H Q E →
    codeAny (model P w) A (.call (.ref f) args) (CR CX outer P w H s Q E) s
theorem FnA.of {gd : Bool} {P : Program} {w : World} {K : PySem.W.Frag} {mg : Str → Option Value} {base : Heap} {CX : CXT} {k : Nat} {f : Addr} {fd : FuncData} {ps : List Str} {sp : Sp} (F : FnOk P w K mg base CX k f fd ps sp) : FnA gd P w K mg base CX k f fd ps sp :=
  ⟨F.len, fun A outer s H args us vs Q E hr _ => F.run A outer s H args us vs Q E hr⟩
/-- where one stands: the context, the wish about errors, the room -/
structure Wk (X : Cx) (C : Ctx) (W : WX) (gd : Bool) (k : Nat) : Prop where
  K : C.K = X.K
  mg : C.mg = X.mg
  room : Room k X.A
  gd : gd = true → X.A.guards = some []
  tk : Takes X W
  cold : C.ex = none
theorem Wk.hu {X : Cx} {C : Ctx} {W : WX} {gd : Bool} {k : Nat} (w : Wk X C W gd k) : X.A.units + 64 < cLine := by
  have h := w.room.un
  omega
theorem Wk.hu65 {X : Cx} {C : Ctx} {W : WX} {gd : Bool} {k : Nat} (w : Wk X C W gd k) : X.A.units + 65 < cLine := by
  have h := w.room.un
  omega
/-- a def of the module, by its name -/
structure Fn (C : Ctx) (P : Program) (w : World) (base : Heap) (gd : Bool) (x : Str) (k n : Nat) (m : FM) : Prop where
  ex : ∃ (f : Addr) (fd : FuncData) (ps : List Str), C.mg x = some (.ref f) ∧ PySem.W.keepIn C.K (.ref f) = true ∧ Binds C.K fd ps [] ∧ ps.length = n ∧ FnA gd P w C.K C.mg base (L2.CX P w) k f fd ps (spM C m n)
section
variable {X : Cx} {C : Ctx} {W : WX} {e : Expr} {es : List Expr} {a : AM} {pos p : Pos} {x : Str} {gd gd' : Bool} {k j n : Nat} {m : FM}
theorem run_fnA {f : Addr} {fd : FuncData} {ps : List Str} {sp : Sp} {CX : CXT} {E : XK} {pins : List (Addr × Obj)} {σ : St} {H : Hp} {s : Shared} {Q : VK} {us : List Value} {vs : List V} (F : FnA gd X.prog X.w X.K X.mg X.base CX k f fd ps sp) (hr : Room k X.A) (hg : gd = true → X.A.guards = some [])
    (hb : Binds X.K fd ps []) (hx : ∀ (er : Value) (s' : Shared), CX X.stack H s E er s' → X.xe er s') (I : Inv X pins σ H s) (r : Vals vs us) (h : sp vs H Q E) : wpAny (model X.prog X.w) X.A (call (.ref f) us) (EP X pins σ Q) X.xe s := by
  have hl : (us ++ []).length = ps.length := by
    rw [List.append_nil, ← r.length]
    exact F.len _ _ _ _ h
  have b := hb s us I.kIn hl
  rw [List.append_nil] at b
  refine wpAny_call (codeAny_mono (F.run X.A X.stack s H ⟨us, []⟩ us vs Q E hr hg I.env0 b r h) fun res s' done => ?_)
  cases res with
  | error er => exact hx er s' done
  | ok fl => cases fl with
    | ret u => exact I.after done
    | next => exact done.elim
    | brk => exact done.elim
    | cont => exact done.elim
abbrev ALen (a : AM) (n : Nat) : Prop := ∀ env p ds q, a env p = .ok ds q → ds.length = n
theorem a0 : ALen aNil 0 := fun _ _ _ _ h => by
  cases h
  rfl
theorem al {m : EM} {r : AM} {n : Nat} (h : ALen r n) : ALen (aCons m r) (n + 1) := fun env p ds q e => by
  unfold aCons at e
  cases e1 : m env p with
  | bad =>
    rw [e1] at e
    cases e
  | err er q1 =>
    rw [e1] at e
    cases e
  | ok d q1 =>
    rw [e1] at e
    have e' : (r env q1).bind (fun ds q2 => .ok (d :: ds) q2) = .ok ds q := e
    cases e2 : r env q1 with
    | bad =>
      rw [e2] at e'
      cases e'
    | err er q2 =>
      rw [e2] at e'
      cases e'
    | ok ds2 q2 =>
      rw [e2] at e'
      cases e'
      rw [List.length_cons, h env q1 ds2 q e2]
def mFn (m : FM) (a : AM) : EM := fun env p => (a env p).bind fun ds q => m ds q
theorem pm_call (F : Fn C X.prog X.w X.base gd x k n m) (w : Wk X C W gd' j) (hk : k ≤ j) (hgd : gd = true → gd' = true) (ha : PA X (e :: es) (rA C W a)) (hl : ALen a n) (hg : Gl X x := by rfl) (hdb : (x == ("__debug__" : Str)) = false := by decide)
    (he : starEach (e :: es) X.env = (false, eval e X.env) :: starEach es X.env := by rfl) (hpl : (backTo pos (starEach es X.env)).any (·.1) = false := by rfl) : PE X (.Call (.Name x p) (e :: es) [] pos) (rE C W (mFn m a)) := by
  obtain ⟨f, fd, ps, h1, h2, h3, h4, F⟩ := F.ex
  refine ⟨fun pins s σ H Q I ⟨G, env, p0, L, o⟩ => ?_⟩
  have hm1 : X.mg x = some (.ref f) := by rw [← w.mg]; exact h1
  rw [w.K] at h2 h3 F
  rw [w.mg] at F
  refine wpAny_Call_Name_kw (ld_glob I hg hm1 ?_ hdb)
  have o2 := o.bind
  cases ea : a env p0 with
  | bad =>
    rw [ea] at o2
    exact o2.elim
  | err er q =>
    have z : rA C W a σ H (fun _ _ => False) := ⟨G, env, p0, L, by rw [ea] at o2 ⊢; exact o2⟩
    refine PySem.W.callWith_K (h₀ := X.base) I.ok.mod.kin h2 (thn (ha.run pos pins s σ H _ I z) fun us s1 ⟨vs, H1, I1, r, q⟩ => q.elim) he hpl
  | ok ds q =>
    have lds := hl _ _ _ _ ea
    rw [ea] at o2
    have z : rA C W a σ H (fun vs H1 => spM C m n vs H1 Q (fun cls d H' => W cls d σ H')) := ⟨G, env, p0, L, by
      rw [ea]
      intro vs G1 H1 x1 y1 r1
      refine ⟨G1, ds, q, by rw [r1.length]; exact lds, x1.sub, x1.tab, x1.nt L.tab L.nt, y1, r1, OutP.imp o2 (fun d q2 z2 v G2 H2 x2 y2 r2 => z2 v G2 H2 (x1.trans x2) y2 r2) fun er q2 z2 cls dd G2 H2 x2 y2 r2 => z2 cls dd G2 H2 (x1.trans x2) y2 r2⟩⟩
    refine PySem.W.callWith_K (h₀ := X.base) I.ok.mod.kin h2 (thn (ha.run pos pins s σ H _ I z) fun us s1 ⟨vs, H1, I1, r, q⟩ => ⟨I1.kIn, ?_⟩) he hpl
    exact run_fnA F (w.room.mono hk) (fun c => w.gd (hgd c)) h3 (fun er s' c => w.tk er s' (XE.of_call I1 (fun cls d H2 h => h) c)) I1 r q
/-- f() -/
theorem pm_call0 (F : Fn C X.prog X.w X.base gd x k 0 m) (w : Wk X C W gd' j) (hk : k ≤ j) (hgd : gd = true → gd' = true) (hg : Gl X x := by rfl) (hdb : (x == ("__debug__" : Str)) = false := by decide) : PE X (.Call (.Name x p) [] [] pos) (rE C W (mFn m aNil)) := by
  obtain ⟨f, fd, ps, h1, h2, h3, h4, F⟩ := F.ex
  refine ⟨fun pins s σ H Q I ⟨G, env, p0, L, o⟩ => ?_⟩
  have hm1 : X.mg x = some (.ref f) := by rw [← w.mg]; exact h1
  rw [w.K] at h2 h3 F
  rw [w.mg] at F
  refine wpAny_Call_Name_kw (ld_glob I hg hm1 ?_ hdb)
  refine PySem.W.callWith_K0 I.kIn h2 (run_fnA F (w.room.mono hk) (fun c => w.gd (hgd c)) h3 (fun er s' c => w.tk er s' (XE.of_call I (fun cls d H2 h => h) c)) I .nil (E := fun cls d H' => W cls d σ H') ?_)
  exact ⟨G, [], p0, rfl, L.sub, L.tab, L.nt, L.pen, .nil, OutP.imp o (fun d q2 z2 v G2 H2 x2 y2 r2 => z2 v G2 H2 x2 y2 r2) fun er q2 z2 cls dd G2 H2 x2 y2 r2 => z2 cls dd G2 H2 x2 y2 r2⟩

/-! ### lists of the frame's own handed to a def: frozen while it runs -/
mutual
def D.noL : D → Bool
  | .lst _ => false
  | .tup xs => D.noLs xs
  | .dct kvs => D.noLk kvs
  | .obj _ fs => D.noLf fs
  | .non => true
  | .bl _ => true
  | .int _ => true
  | .str _ => true
  | .pen => true
  | .fn _ => true
  | .ty _ => true
  | .exc _ fs => D.noLf fs
  | .scr _ => false
  | .clo => false
  | .lam _ => false
def D.noLs : List D → Bool
  | [] => true
  | x :: xs => x.noL && D.noLs xs
def D.noLk : List (Key × D) → Bool
  | [] => true
  | (_, x) :: xs => x.noL && D.noLk xs
def D.noLf : List (Str × D) → Bool
  | [] => true
  | (_, x) :: xs => x.noL && D.noLf xs
end
/-- what is left of a heap without some lists -/
def NotL (G G' : Hp) : Prop := ∀ a o, G a = some o → (∀ vs, o ≠ .lst vs) → G' a = some o
mutual
theorem Rep.noL {G G' : Hp} (s : NotL G G') : ∀ {v : V} {d : D}, Rep C G v d → d.noL = true → Rep C G' v d
  | _, _, .non, _ => .non
  | _, _, .bl b, _ => .bl b
  | _, _, .int i, _ => .int i
  | _, _, .str x, _ => .str x
  | _, _, .tup h r, e => .tup (s _ _ h fun _ z => by cases z) (Reps.noL s r (by simpa only [D.noL] using e))
  | _, _, .lst h r, e => by simp [D.noL] at e
  | _, _, .dct h r, e => .dct (s _ _ h fun _ z => by cases z) (RepK.noL s r (by simpa only [D.noL] using e))
  | _, _, .obj m h r, e => .obj m (s _ _ h fun _ z => by cases z) (RepF.noL s r (by simpa only [D.noL] using e))
  | _, _, .pen h, _ => .pen h
  | _, _, .fn h, _ => .fn h
  | _, _, .ty n, _ => .ty n
  | _, _, .scr h, e => by simp [D.noL] at e
  | _, _, .clo h s0, e => by simp [D.noL] at e
  | _, _, .lam _ _ _, e => by simp [D.noL] at e
  | _, _, .exc0 h m, _ => .exc0 h m
  | _, _, .exc1 h m g r, e => .exc1 h m (s _ _ g fun _ z => by cases z) (RepF.noL s r (by simpa only [D.noL] using e))
theorem Reps.noL {G G' : Hp} (s : NotL G G') : ∀ {vs : List V} {ds : List D}, Reps C G vs ds → D.noLs ds = true → Reps C G' vs ds
  | _, _, .nil, _ => .nil
  | _, _, .cons h t, e => by
    simp only [D.noLs, Bool.and_eq_true] at e
    exact .cons (Rep.noL s h e.1) (Reps.noL s t e.2)
theorem RepK.noL {G G' : Hp} (s : NotL G G') : ∀ {vs : List (Key × V)} {ds : List (Key × D)}, RepK C G vs ds → D.noLk ds = true → RepK C G' vs ds
  | _, _, .nil, _ => .nil
  | _, _, .cons h t, e => by
    simp only [D.noLk, Bool.and_eq_true] at e
    exact .cons (Rep.noL s h e.1) (RepK.noL s t e.2)
theorem RepF.noL {G G' : Hp} (s : NotL G G') : ∀ {vs : List (Str × V)} {ds : List (Str × D)}, RepF C G vs ds → D.noLf ds = true → RepF C G' vs ds
  | _, _, .nil, _ => .nil
  | _, _, .cons h t, e => by
    simp only [D.noLf, Bool.and_eq_true] at e
    exact .cons (Rep.noL s h e.1) (RepF.noL s t e.2)
end
/-- a is a list of the frame's own -/
def Own (σ : St) (env : Env) (a : Addr) : Prop := ∃ (i : Nat) (ds : List D), σ[i]? = some (some (.ref a)) ∧ env[i]? = some (.own ds)
open Classical in
noncomputable def frz (G H : Hp) (σ : St) (env : Env) : Hp := fun a => if Own σ env a then H a else G a
open Classical in
noncomputable def thaw (G : Hp) (σ : St) (env : Env) : Hp := fun a => if Own σ env a then none else G a
theorem LOk.own_at {G H : Hp} {σ : St} {env : Env} {p : Pen} (L : LOk C G H σ env p) {a : Addr} (o : Own σ env a) : G a = none ∧ ∃ vs, H a = some (.lst vs) := by
  obtain ⟨i, ds, h1, h2⟩ := o
  obtain ⟨b, vs, e1, e2, e3, _⟩ := L.own h2
  rw [h1] at e1
  cases e1
  exact ⟨e3, vs, e2⟩
theorem frz_own {G H : Hp} {σ : St} {env : Env} {a : Addr} (o : Own σ env a) : frz G H σ env a = H a := by
  unfold frz
  exact if_pos o
theorem frz_not {G H : Hp} {σ : St} {env : Env} {a : Addr} (o : ¬ Own σ env a) : frz G H σ env a = G a := by
  unfold frz
  exact if_neg o
theorem thaw_own {G : Hp} {σ : St} {env : Env} {a : Addr} (o : Own σ env a) : thaw G σ env a = none := by
  unfold thaw
  exact if_pos o
theorem thaw_not {G : Hp} {σ : St} {env : Env} {a : Addr} (o : ¬ Own σ env a) : thaw G σ env a = G a := by
  unfold thaw
  exact if_neg o
theorem LOk.frz_gro {G H : Hp} {σ : St} {env : Env} {p : Pen} (L : LOk C G H σ env p) : Sub G (frz G H σ env) := fun a o e => by
  by_cases c : Own σ env a
  · rw [(L.own_at c).1] at e
    cases e
  · rw [frz_not c]
    exact e
theorem LOk.frz_sub {G H : Hp} {σ : St} {env : Env} {p : Pen} (L : LOk C G H σ env p) : Sub (frz G H σ env) H := fun a o e => by
  by_cases c : Own σ env a
  · rw [frz_own c] at e
    exact e
  · rw [frz_not c] at e
    exact L.sub a o e
theorem LOk.frz_pen {G H : Hp} {σ : St} {env : Env} {p : Pen} (L : LOk C G H σ env p) : PenAt C (frz G H σ env) H p := fun a e => by
  obtain ⟨n, h1, h2⟩ := L.pen a e
  refine ⟨?_, h1, L.frz_gro _ _ h2⟩
  have c : ¬ Own σ env a := fun o => by
    obtain ⟨_, vs, h3⟩ := L.own_at o
    rw [h1] at h3
    cases h3
  rw [frz_not c]
  exact n
theorem LOk.frz_nt {G H : Hp} {σ : St} {env : Env} {p : Pen} (L : LOk C G H σ env p) : NT C (frz G H σ env) := fun q hq => by
  have c : ¬ Own σ env q.1 := fun o => by
    obtain ⟨_, vs, h3⟩ := L.own_at o
    obtain ⟨_, t, _⟩ := L.tab.tabs q hq
    rw [t] at h3
    cases h3
  rw [frz_not c]
  exact L.nt q hq
theorem BRep.frz {G H : Hp} {σ : St} {env : Env} {p : Pen} {v : V} {d : D} (L : LOk C G H σ env p) (h : BRep C G σ env v d) : Rep C (Pu.frz G H σ env) v d := by
  rcases h with h | ⟨i, ds, a, rfl, rfl, h3, h4⟩
  · exact h.mono L.frz_gro
  · obtain ⟨b, vs, e1, e2, e3, e4⟩ := L.own h4
    rw [h3] at e1
    cases e1
    refine .lst ?_ (e4.mono L.frz_gro)
    rw [frz_own ⟨i, ds, h3, h4⟩]
    exact e2
theorem BReps.frz {G H : Hp} {σ : St} {env : Env} {p : Pen} (L : LOk C G H σ env p) : ∀ {vs : List V} {ds : List D}, BReps C G σ env vs ds → Reps C (Pu.frz G H σ env) vs ds
  | _, _, .nil => .nil
  | _, _, .cons h t => .cons (h.frz L) (BReps.frz L t)
/-- behind the call: thawed -/
theorem LOk.thaw_ext {G H G' H' : Hp} {σ : St} {env : Env} {p : Pen} (L : LOk C G H σ env p) (x : Ext C (Pu.frz G H σ env) H G' H') : Ext C G H (Pu.thaw G' σ env) H' := by
  refine ⟨fun a o e => ?_, fun a o e => ?_, fun a o e => ?_, x.kee, x.fre, x.tab⟩
  · by_cases c : Own σ env a
    · rw [thaw_own c] at e
      cases e
    · rw [thaw_not c] at e
      exact x.sub a o e
  · have c : ¬ Own σ env a := fun c => by
      rw [(L.own_at c).1] at e
      cases e
    rw [thaw_not c]
    exact x.gro a o (L.frz_gro a o e)
  · by_cases c : Own σ env a
    · rw [thaw_own c] at e
      cases e
    · rw [thaw_not c] at e
      rcases x.new a o e with z | z
      · rw [frz_not c] at z
        exact .inl z
      · exact .inr z
theorem LOk.thaw_pen {G H G' H' : Hp} {σ : St} {env : Env} {p q : Pen} (L : LOk C G H σ env p) (h : PenAt C G' H' q) : PenAt C (Pu.thaw G' σ env) H' q := fun a e => by
  obtain ⟨n, h1, h2⟩ := h a e
  obtain ⟨_, _, h4⟩ := L.pen a e
  refine ⟨?_, h1, ?_⟩
  · by_cases c : Own σ env a
    · exact thaw_own c
    · rw [thaw_not c]
      exact n
  · have c : ¬ Own σ env C.pl := fun c => by
      rw [(L.own_at c).1] at h4
      cases h4
    rw [thaw_not c]
    exact h2
theorem LOk.thaw_notL {G H G' H' : Hp} {σ : St} {env : Env} {p : Pen} (L : LOk C G H σ env p) (x : Ext C (Pu.frz G H σ env) H G' H') : NotL G' (Pu.thaw G' σ env) := fun a o e n => by
  have c : ¬ Own σ env a := fun c => by
    obtain ⟨_, vs, h2⟩ := L.own_at c
    have h3 := x.gro a (.lst vs) (by rw [frz_own c]; exact h2)
    rw [h3] at e
    exact n vs (Option.some.inj e).symm
  rw [thaw_not c]
  exact e
def mFnB (m : FM) (a : AM) : EM := fun env p => (a env p).bind fun ds q => (m ds q).bind fun d q2 => if d.noL = true then .ok d q2 else .bad
def Err.noL (e : Err) : Bool := D.noLf e.fs
theorem pm_callB (F : Fn C X.prog X.w X.base gd x k n m) (w : Wk X C W gd' j) (hk : k ≤ j) (hgd : gd = true → gd' = true) (ha : PA X (e :: es) (rAB C W a)) (hl : ALen a n) (he0 : ∀ ds q er q2, m ds q = .err er q2 → er.noL = true) (hg : Gl X x := by rfl) (hdb : (x == ("__debug__" : Str)) = false := by decide)
    (he : starEach (e :: es) X.env = (false, eval e X.env) :: starEach es X.env := by rfl) (hpl : (backTo pos (starEach es X.env)).any (·.1) = false := by rfl) : PE X (.Call (.Name x p) (e :: es) [] pos) (rE C W (mFnB m a)) := by
  obtain ⟨f, fd, ps, h1, h2, h3, h4, F⟩ := F.ex
  refine ⟨fun pins s σ H Q I ⟨G, env, p0, L, o⟩ => ?_⟩
  have hm1 : X.mg x = some (.ref f) := by rw [← w.mg]; exact h1
  rw [w.K] at h2 h3 F
  rw [w.mg] at F
  refine wpAny_Call_Name_kw (ld_glob I hg hm1 ?_ hdb)
  have o2 := o.bind
  cases ea : a env p0 with
  | bad =>
    rw [ea] at o2
    exact o2.elim
  | err er q =>
    have z : rAB C W a σ H (fun _ _ => False) := ⟨G, env, p0, L, by rw [ea] at o2 ⊢; exact o2⟩
    refine PySem.W.callWith_K (h₀ := X.base) I.ok.mod.kin h2 (thn (ha.run pos pins s σ H _ I z) fun us s1 ⟨vs, H1, I1, r, q⟩ => q.elim) he hpl
  | ok ds q =>
    have lds := hl _ _ _ _ ea
    rw [ea] at o2
    have z : rAB C W a σ H (fun vs H1 => spM C m n vs H1 Q (fun cls d H' => W cls d σ H')) := ⟨G, env, p0, L, by
      rw [ea]
      intro vs G1 H1 x1 y1 r1
      have L1 := L.step x1 y1
      have o3 : OutP (m ds q) _ _ := OutP.bind o2
      refine ⟨Pu.frz G1 H1 σ env, ds, q, by rw [r1.length]; exact lds, L1.frz_sub, x1.tab, L1.frz_nt, L1.frz_pen, r1.frz L1, ?_⟩
      cases em : m ds q with
      | bad =>
        rw [em] at o3
        exact o3
      | err er q2 =>
        rw [em] at o3
        intro cls dd G2 H2 x2 y2 r2
        have nl := he0 ds q er q2 em
        refine o3 cls dd _ H2 (x1.trans (L1.thaw_ext x2)) (L1.thaw_pen y2) ?_
        obtain ⟨cA, c1, c2, c3⟩ := r2
        refine ⟨cA, c1, c2, c3.imp id fun ⟨b, fvs, b1, b2, b3⟩ => ⟨b, fvs, b1, L1.thaw_notL x2 _ _ b2 (fun _ z => by cases z), b3.noL (L1.thaw_notL x2) nl⟩⟩
      | ok d q2 =>
        rw [em] at o3
        intro v G2 H2 x2 y2 r2
        have o4 : OutP (if d.noL = true then .ok d q2 else .bad) _ _ := o3
        split at o4
        · rename_i c
          exact o4 v _ H2 (x1.trans (L1.thaw_ext x2)) (L1.thaw_pen y2) (r2.noL (L1.thaw_notL x2) c)
        · exact o4.elim⟩
    refine PySem.W.callWith_K (h₀ := X.base) I.ok.mod.kin h2 (thn (ha.run pos pins s σ H _ I z) fun us s1 ⟨vs, H1, I1, r, q⟩ => ⟨I1.kIn, ?_⟩) he hpl
    exact run_fnA F (w.room.mono hk) (fun c => w.gd (hgd c)) h3 (fun er s' c => w.tk er s' (XE.of_call I1 (fun cls d H2 h => h) c)) I1 r q
end
end Pu
end

section
set_option maxHeartbeats 2000000
namespace Pu
open PySem PySem.Spec PyProof.Rows L2

/-! ### what is walked -/
/-- it stands through the loop: frozen, or (fz = false) kept by all steps -/
def Stay (C : Ctx) (fz : Bool) (G H : Hp) (a : Addr) (o : HO) : Prop := G a = some o ∨ (fz = false ∧ H a = some o ∧ C.pa ≠ some a)
def Kept (C : Ctx) (fz : Bool) (H H' : Hp) : Prop := fz = false → ∀ a o, H a = some o → C.pa ≠ some a → (∀ ps, o ≠ .tbl ps) → H' a = some o
theorem Stay.at {C : Ctx} {fz : Bool} {G H G' H' : Hp} {a : Addr} {o : HO} (s : Stay C fz G H a o) (h1 : Sub G G') (h2 : Sub G' H') (k : Kept C fz H H') (n : ∀ ps, o ≠ .tbl ps) : H' a = some o := by
  rcases s with s | ⟨e, s, p⟩
  · exact h2 _ _ (h1 _ _ s)
  · exact k e a o s p n
def ItOk (C : Ctx) (fz : Bool) (G H : Hp) (J : It) (ds : List D) : Prop := ∃ (Gw : Hp → Prop) (Y : Nat → Hp → V → Hp → Prop), Walk J ds.length Gw Y ∧
  (∀ G' H', Sub G G' → Sub G' H' → Kept C fz H H' → Gw H') ∧ ∀ i d G' H' x H'', ds[i]? = some d → Sub G G' → Sub G' H' → Y i H' x H'' → ∃ G'', Alc G' H' G'' H'' ∧ Rep C G'' x d
def rI (C : Ctx) (W : WX) (fz : Bool) (m : AM) : TI := fun σ H R => ∃ G env p, LOk C G H σ env p ∧
  OutP (m env p) (fun ds q => ∀ J G' H', Ext C G H G' H' → PenAt C G' H' q → ItOk C fz G' H' J ds → R J H') (ErrP C W G H σ)
section
variable {C : Ctx} {fz : Bool} {G H : Hp} {K : PySem.W.Frag} {a b : Addr} {vs ws : List V} {ds es : List D}
theorem ItOk.thaw {J : It} (h : ItOk C true G H J ds) : ItOk C fz G H J ds := by
  obtain ⟨Gw, Y, w, h1, h2⟩ := h
  exact ⟨Gw, Y, w, fun G' H' s1 s2 _ => h1 G' H' s1 s2 (fun e => by cases e), h2⟩
theorem it_list (s : Stay C fz G H a (.lst vs)) (r : Reps C G vs ds) : ItOk C fz G H (Itl K a) ds := by
  have w := walk_list (K := K) (a := a) (xs := vs)
  rw [r.length] at w
  refine ⟨_, _, w, fun G' H' s1 s2 k => SqL.of (s.at s1 s2 k fun _ z => by cases z), fun i d G' H' x H'' hd s1 s2 y => ?_⟩
  obtain ⟨e1, e2⟩ := y
  obtain ⟨d', h1, h2⟩ := r.getL e2
  rw [hd] at h1
  cases h1
  subst e1
  exact ⟨G', Alc.refl s2, h2.mono s1⟩
theorem it_tup (s : Stay C fz G H a (.tup vs)) (r : Reps C G vs ds) : ItOk C fz G H (Itt K a) ds := by
  have w := walk_tup (K := K) (a := a) (xs := vs)
  rw [r.length] at w
  refine ⟨_, _, w, fun G' H' s1 s2 k => SqT.of (s.at s1 s2 k fun _ z => by cases z), fun i d G' H' x H'' hd s1 s2 y => ?_⟩
  obtain ⟨e1, e2⟩ := y
  obtain ⟨d', h1, h2⟩ := r.getL e2
  rw [hd] at h1
  cases h1
  subst e1
  exact ⟨G', Alc.refl s2, h2.mono s1⟩
def rgN (lo : Int) (n : Nat) : List D := (List.range n).map fun i => D.int (lo + (i : Nat))
theorem rgN_len (lo : Int) (n : Nat) : (rgN lo n).length = n := by
  unfold rgN
  rw [List.length_map, List.length_range]
theorem it_range {lo : Int} {n : Nat} : ItOk C fz G H (Itr lo n) (rgN lo n) := by
  have w := walk_range (lo := lo) (n := n)
  rw [← rgN_len lo n] at w
  rw [rgN_len lo n] at w
  refine ⟨fun _ => True, YFn fun i => .int (lo + i), by rw [rgN_len]; exact w, fun _ _ _ _ _ => trivial, fun i d G' H' x H'' hd s1 s2 y => ?_⟩
  obtain ⟨e1, e2⟩ := y
  subst e1 e2
  unfold rgN at hd
  rw [List.getElem?_map] at hd
  cases e : (List.range n)[i]? with
  | none =>
    rw [e] at hd
    cases hd
  | some j =>
    rw [e] at hd
    cases hd
    have z := List.getElem?_eq_some_iff.mp e
    obtain ⟨z1, z2⟩ := z
    rw [List.getElem_range] at z2
    subst z2
    exact ⟨G', Alc.refl s2, .int _⟩
def rgC (lo c : Int) (n : Nat) : List D := (List.range n).map fun i => D.int (lo + (i : Nat) * c)
theorem rgC_len (lo c : Int) (n : Nat) : (rgC lo c n).length = n := by
  unfold rgC
  rw [List.length_map, List.length_range]
theorem it_rangeC {lo c : Int} {n : Nat} : ItOk C fz G H (Itc lo c n) (rgC lo c n) := by
  refine ⟨fun _ => True, YFn fun i => .int (lo + (i : Nat) * c), by rw [rgC_len]; exact walk_rangeC, fun _ _ _ _ _ => trivial, fun i d G' H' x H'' hd s1 s2 y => ?_⟩
  obtain ⟨e1, e2⟩ := y
  subst e1 e2
  unfold rgC at hd
  rw [List.getElem?_map] at hd
  cases e : (List.range n)[i]? with
  | none =>
    rw [e] at hd
    cases hd
  | some j =>
    rw [e] at hd
    cases hd
    obtain ⟨z1, z2⟩ := List.getElem?_eq_some_iff.mp e
    rw [List.getElem_range] at z2
    subst z2
    exact ⟨G', Alc.refl s2, .int _⟩
def zipD (ds es : List D) : List D := (ds.zip es).map fun p => D.tup [p.1, p.2]
theorem zipD_len (ds es : List D) : (zipD ds es).length = min ds.length es.length := by
  unfold zipD
  rw [List.length_map, List.length_zip]
theorem pair_rep {xs ys : Nat → Option V} {i : Nat} {d e : D} {G' H' H'' : Hp} {x : V} (s2 : Sub G' H') (hx : ∀ v, xs i = some v → Rep C G' v d) (hy : ∀ v, ys i = some v → Rep C G' v e) (y : YPair xs ys i H' x H'') : ∃ G'', Alc G' H' G'' H'' ∧ Rep C G'' x (.tup [d, e]) := by
  obtain ⟨T, u, v, rfl, hT, rfl, h1, h2⟩ := y
  have al : Alc G' H' (upd G' T (.tup [u, v])) (upd H' T (.tup [u, v])) := Alc.put s2 hT
  exact ⟨_, al, .tup upd_same (.cons ((hx _ h1).mono al.gro) (.cons ((hy _ h2).mono al.gro) .nil))⟩
theorem zip_at {ds es : List D} {i : Nat} {d : D} (h : (zipD ds es)[i]? = some d) : ∃ x y, ds[i]? = some x ∧ es[i]? = some y ∧ d = .tup [x, y] := by
  unfold zipD at h
  rw [List.getElem?_map] at h
  cases e : (ds.zip es)[i]? with
  | none =>
    rw [e] at h
    cases h
  | some p =>
    rw [e] at h
    cases h
    obtain ⟨h1, h2⟩ := List.getElem?_zip_eq_some.mp e
    exact ⟨p.1, p.2, h1, h2, rfl⟩
theorem rep_at {vs : List V} {ds : List D} {G' : Hp} (r : Reps C G vs ds) (s1 : Sub G G') {i : Nat} {d : D} (hd : ds[i]? = some d) : ∀ v, vs[i]? = some v → Rep C G' v d := fun v hv => by
  obtain ⟨d', h1, h2⟩ := r.getL hv
  rw [hd] at h1
  cases h1
  exact h2.mono s1
theorem it_zipL (s : Stay C fz G H a (.lst vs)) (t : Stay C fz G H b (.lst ws)) (r : Reps C G vs ds) (q : Reps C G ws es) : ItOk C fz G H (Itz K a b) (zipD ds es) := by
  have w := walk_zip (K := K) (a := a) (b := b) (xs := vs) (ys := ws) (n := (zipD ds es).length) (by rw [zipD_len, r.length, q.length])
  refine ⟨_, _, w, fun G' H' s1 s2 k => ⟨SqL.of (s.at s1 s2 k fun _ z => by cases z), SqL.of (t.at s1 s2 k fun _ z => by cases z)⟩, fun i d G' H' x H'' hd s1 s2 y => ?_⟩
  obtain ⟨d1, d2, h1, h2, rfl⟩ := zip_at hd
  exact pair_rep s2 (rep_at r s1 h1) (rep_at q s1 h2) y
theorem walk_zipT {n : Nat} {xs ys : List V} (hn : n = min xs.length ys.length) : Walk (RZ.ItzT K a b) n (fun H => SqT K H a xs ∧ SqT K H b ys) (YPair (fun i => xs[i]?) (fun i => ys[i]?)) := by
  subst hn
  refine ⟨fun i H hi q => ?_, fun H q => ⟨xs, ys, q.1, q.2, by omega⟩, fun i H v H' hi q y => ?_⟩
  · have h1 : i < xs.length := by omega
    have h2 : i < ys.length := by omega
    exact ⟨xs, ys, xs[i], ys[i], q.1, q.2, List.getElem?_eq_getElem h1, List.getElem?_eq_getElem h2⟩
  · obtain ⟨T, x, z, h1, h2, h3, h4, h5⟩ := y
    exact ⟨T, x, z, h1, h2, h3, h4 xs q.1, h5 ys q.2⟩
theorem it_zipT (s : Stay C fz G H a (.tup vs)) (t : Stay C fz G H b (.tup ws)) (r : Reps C G vs ds) (q : Reps C G ws es) : ItOk C fz G H (RZ.ItzT K a b) (zipD ds es) := by
  have w := walk_zipT (K := K) (a := a) (b := b) (xs := vs) (ys := ws) (n := (zipD ds es).length) (by rw [zipD_len, r.length, q.length])
  refine ⟨_, _, w, fun G' H' s1 s2 k => ⟨SqT.of (s.at s1 s2 k fun _ z => by cases z), SqT.of (t.at s1 s2 k fun _ z => by cases z)⟩, fun i d G' H' x H'' hd s1 s2 y => ?_⟩
  obtain ⟨d1, d2, h1, h2, rfl⟩ := zip_at hd
  exact pair_rep s2 (rep_at r s1 h1) (rep_at q s1 h2) y
def enumD (ds : List D) : List D := zipD (rgN 0 ds.length) ds
theorem it_enum (s : Stay C fz G H a (.lst vs)) (r : Reps C G vs ds) : ItOk C fz G H (Ite K a) (enumD ds) := by
  have w := walk_enum (K := K) (a := a) (xs := vs)
  have e : (enumD ds).length = vs.length := by
    unfold enumD
    rw [zipD_len, rgN_len, r.length, Nat.min_self]
  rw [← e] at w
  refine ⟨_, _, w, fun G' H' s1 s2 k => SqL.of (s.at s1 s2 k fun _ z => by cases z), fun i d G' H' x H'' hd s1 s2 y => ?_⟩
  obtain ⟨d1, d2, h1, h2, rfl⟩ := zip_at hd
  refine pair_rep s2 (fun v hv => ?_) (rep_at r s1 h2) y
  cases hv
  unfold rgN at h1
  rw [List.getElem?_map] at h1
  cases ei : (List.range ds.length)[i]? with
  | none =>
    rw [ei] at h1
    cases h1
  | some j =>
    rw [ei] at h1
    cases h1
    obtain ⟨z1, z2⟩ := List.getElem?_eq_some_iff.mp ei
    rw [List.getElem_range] at z2
    subst z2
    show Rep C G' (.int (i : Int)) (.int (0 + (i : Int)))
    rw [Int.zero_add]
    exact .int _
theorem it_rev (s : Stay C fz G H a (.lst vs)) (r : Reps C G vs ds) : ItOk C fz G H (Itv K a vs.length) ds.reverse := by
  have w := walk_rev (K := K) (a := a) (xs := vs)
  have e : ds.reverse.length = vs.length := by rw [List.length_reverse, r.length]
  rw [← e] at w
  rw [e] at w
  refine ⟨_, _, by rw [e]; exact w, fun G' H' s1 s2 k => SqL.of (s.at s1 s2 k fun _ z => by cases z), fun i d G' H' x H'' hd s1 s2 y => ?_⟩
  obtain ⟨e1, e2⟩ := y
  subst e1
  have hi : i < ds.length := by
    have z := (List.getElem?_eq_some_iff.mp hd).1
    rw [List.length_reverse] at z
    exact z
  rw [List.getElem?_reverse hi, ← r.length] at hd
  exact ⟨G', Alc.refl s2, rep_at r s1 hd x e2⟩
end

section
variable {X : Cx} {C : Ctx} {W : WX} {fz : Bool} {tg l e e2 e3 : Expr} {m m2 m3 : EM} {a : AM} {pos p : Pos}
theorem _root_.L2.PI.of {t t' : TI} (h : PI X tg l t) (i : ∀ σ H R, t' σ H R → t σ H R) : PI X tg l t' := ⟨fun pins s σ H R I z => h.run pins s σ H R I (i _ _ _ z)⟩
def mIt (m : EM) : AM := fun env p => (m env p).bind fun d q => match d with
  | .lst xs => .ok xs q
  | .tup xs => .ok xs q
  | _ => .bad
theorem BRep.stay {G H : Hp} {σ : St} {env : Env} {q : Pen} {v : V} {ds : List D} (h : BRep C G σ env v (.lst ds)) (L : LOk C G H σ env q) : ∃ b vs, v = .ref b ∧ Stay C false G H b (.lst vs) ∧ Reps C G vs ds := by
  rcases h with h | ⟨i, es, a, e1, e2, e3, e4⟩
  · cases h with
    | lst h r => exact ⟨_, _, rfl, .inl h, r⟩
  · cases e2
    obtain ⟨b, vs, h1, h2, h3, h4⟩ := L.own e4
    rw [e3] at h1
    cases h1
    refine ⟨a, vs, e1, .inr ⟨rfl, h2, fun z => ?_⟩, h4⟩
    obtain ⟨_, y, _⟩ := L.pen a z
    rw [h2] at y
    cases y
/-- a list or a tuple, frozen -/
theorem im_seq (h : PE X l (rE C W m)) : PI X tg l (rI C W true (mIt m)) := ⟨fun pins s σ H R I ⟨G, env, p, L, o⟩ => by
  have o2 := o.bind
  cases em : m env p with
  | bad =>
    rw [em] at o2
    exact o2.elim
  | err er q =>
    rw [em] at o2
    refine (pi_list (tg := tg) (h.of (t' := fun σ0 H0 Q => σ0 = σ ∧ H0 = H) fun σ0 H0 Q ⟨h1, h2⟩ => by subst h1 h2; exact ⟨G, env, p, L, by rw [em]; exact o2⟩)).run pins s σ H R I ⟨rfl, rfl⟩
  | ok d q =>
    rw [em] at o2
    cases d with
    | lst xs =>
      exact (pi_list (tg := tg) h).run pins s σ H R I ⟨G, env, p, L, by
        rw [em]
        intro v G' H' x y r
        cases r with
        | lst hG rs => exact ⟨_, rfl, ⟨_, SqL.of (x.sub _ _ hG)⟩, o2 _ G' H' x y (it_list (.inl hG) rs)⟩⟩
    | tup xs =>
      exact (pi_tup (tg := tg) h).run pins s σ H R I ⟨G, env, p, L, by
        rw [em]
        intro v G' H' x y r
        cases r with
        | tup hG rs => exact ⟨_, rfl, ⟨_, SqT.of (x.sub _ _ hG)⟩, o2 _ G' H' x y (it_tup (.inl hG) rs)⟩⟩
    | _ => exact o2.elim⟩
/-- a list of the frame's own may be walked by what does not change it -/
theorem im_seqB (h : PE X l (rB C W m)) : PI X tg l (rI C W false (mIt m)) := ⟨fun pins s σ H R I ⟨G, env, p, L, o⟩ => by
  have o2 := o.bind
  cases em : m env p with
  | bad =>
    rw [em] at o2
    exact o2.elim
  | err er q =>
    rw [em] at o2
    refine (pi_list (tg := tg) (h.of (t' := fun σ0 H0 Q => σ0 = σ ∧ H0 = H) fun σ0 H0 Q ⟨h1, h2⟩ => by subst h1 h2; exact ⟨G, env, p, L, by rw [em]; exact o2⟩)).run pins s σ H R I ⟨rfl, rfl⟩
  | ok d q =>
    rw [em] at o2
    cases d with
    | lst xs =>
      exact (pi_list (tg := tg) h).run pins s σ H R I ⟨G, env, p, L, by
        rw [em]
        intro v G' H' x y r
        obtain ⟨b, vs, rfl, st, rs⟩ := r.stay (L.step x y)
        obtain ⟨b2, vs2, e1, h2, h3⟩ := r.lst (L.step x y)
        cases e1
        exact ⟨_, rfl, ⟨_, SqL.of h2⟩, o2 _ G' H' x y (it_list st rs)⟩⟩
    | tup xs =>
      exact (pi_tup (tg := tg) h).run pins s σ H R I ⟨G, env, p, L, by
        rw [em]
        intro v G' H' x y r
        obtain ⟨b, vs, rfl, hG, rs⟩ := r.tup
        exact ⟨_, rfl, ⟨_, SqT.of (x.sub _ _ hG)⟩, o2 _ G' H' x y (it_tup (.inl hG) rs)⟩⟩
    | _ => exact o2.elim⟩
theorem im_thaw (h : PI X tg l (rI C W true a)) : PI X tg l (rI C W fz a) := h.of fun σ H R ⟨G, env, p, L, o⟩ => ⟨G, env, p, L, o.imp (fun ds q z J G' H' x y it => z J G' H' x y it.thaw) fun _ _ z => z⟩
def mRng1 (m : EM) : AM := fun env p => (m env p).bind fun d q => match d with
  | .int j => if -(2 ^ 62) ≤ j ∧ j < 2 ^ 62 then .ok (rgN 0 j.toNat) q else .bad
  | _ => .bad
theorem im_range1 (hm : X.mg "range" = none) (h : PE X e (rB C W m)) (hg : Gl X "range" := by rfl) (hs : starEach [e] X.env = [(false, eval e X.env)] := by rfl) : PI X tg (.Call (.Name "range" p) [e] [] pos) (rI C W fz (mRng1 m)) :=
  (pi_range1 hg hm (pa_cons h pa_nil hs) hs).of fun σ H R ⟨G, env, p, L, o⟩ => by
    refine ⟨G, env, p, L, o.bind.imp (fun d q z v G1 H1 x1 y1 r1 => ?_) fun _ _ z => z⟩
    cases d with
    | int j =>
      have z1 : OutP (if -(2 ^ 62) ≤ j ∧ j < 2 ^ 62 then Out.ok (rgN 0 j.toNat) q else .bad) _ _ := z
      split at z1
      · rename_i c
        exact ⟨j, by rw [r1.int], c.1, c.2, z1 _ G1 H1 x1 y1 it_range⟩
      · exact z1.elim
    | _ => exact z.elim
def mRng2 (m m2 : EM) : AM := fun env p => (m env p).bind fun d q => (m2 env q).bind fun d2 q2 => match d, d2 with
  | .int i, .int j => if -(2 ^ 62) ≤ i ∧ i < 2 ^ 62 ∧ -(2 ^ 62) ≤ j ∧ j < 2 ^ 62 then .ok (rgN i (j - i).toNat) q2 else .bad
  | _, _ => .bad
theorem im_range2 (hm : X.mg "range" = none) (h : PE X e (rB C W m)) (h2 : PE X e2 (rB C W m2)) (hg : Gl X "range" := by rfl) (hs : starEach [e, e2] X.env = [(false, eval e X.env), (false, eval e2 X.env)] := by rfl) (hs2 : starEach [e2] X.env = [(false, eval e2 X.env)] := by rfl) : PI X tg (.Call (.Name "range" p) [e, e2] [] pos) (rI C W fz (mRng2 m m2)) :=
  (pi_range2 hg hm (pa_cons h (pa_cons h2 pa_nil hs2) (by rw [hs, hs2])) hs hs2).of fun σ H R ⟨G, env, p, L, o⟩ => by
    refine ⟨G, env, p, L, o.bind.imp (fun d q z v G1 H1 x1 y1 r1 => ⟨G1, env, q, L.step x1 y1, z.bind.imp (fun d2 q2 z2 v2 G2 H2 x2 y2 r2 => ?_) fun _ _ z => z.step x1⟩) fun _ _ z => z⟩
    cases d with
    | int i =>
      cases d2 with
      | int j =>
        have z1 : OutP (if -(2 ^ 62) ≤ i ∧ i < 2 ^ 62 ∧ -(2 ^ 62) ≤ j ∧ j < 2 ^ 62 then Out.ok (rgN i (j - i).toNat) q2 else .bad) _ _ := z2
        split at z1
        · rename_i c
          exact ⟨i, j, by rw [r1.int, r2.int], c, z1 _ G2 H2 (x1.trans x2) y2 it_range⟩
        · exact z1.elim
      | _ => exact z2.elim
    | _ => exact z2.elim
/-- range(a, b, -1) -/
def mRngD (m m2 m3 : EM) : AM := fun env p => (m env p).bind fun d q => (m2 env q).bind fun d2 q2 => (m3 env q2).bind fun d3 q3 => match d, d2, d3 with
  | .int i, .int j, .int c => if -(2 ^ 62) ≤ i ∧ i < 2 ^ 62 ∧ -(2 ^ 62) ≤ j ∧ j < 2 ^ 62 ∧ c = -1 then .ok (rgC i (-1) (i - j).toNat) q3 else .bad
  | _, _, _ => .bad
theorem im_rangeD (hm : X.mg "range" = none) (h : PE X e (rB C W m)) (h2 : PE X e2 (rB C W m2)) (h3 : PE X e3 (rB C W m3)) (hg : Gl X "range" := by rfl) (hs : starEach [e, e2, e3] X.env = (false, eval e X.env) :: starEach [e2, e3] X.env := by rfl) (hs2 : starEach [e2, e3] X.env = (false, eval e2 X.env) :: starEach [e3] X.env := by rfl) (hs3 : starEach [e3] X.env = (false, eval e3 X.env) :: starEach [] X.env := by rfl) (hpl : (backTo pos (starEach [e2, e3] X.env)).any (·.1) = false := by rfl) :
    PI X tg (.Call (.Name "range" p) [e, e2, e3] [] pos) (rI C W fz (mRngD m m2 m3)) :=
  (pi_range3 hg hm (pa_cons h (pa_cons h2 (pa_cons h3 pa_nil hs3) hs2) hs) hs hpl).of fun σ H R ⟨G, env, p, L, o⟩ => by
    refine ⟨G, env, p, L, o.bind.imp (fun d q z v G1 H1 x1 y1 r1 => ⟨G1, env, q, L.step x1 y1, z.bind.imp (fun d2 q2 z2 v2 G2 H2 x2 y2 r2 => ⟨G2, env, q2, (L.step x1 y1).step x2 y2, z2.bind.imp (fun d3 q3 z3 v3 G3 H3 x3 y3 r3 => ?_) fun _ _ z => z.step (x1.trans x2)⟩) fun _ _ z => z.step x1⟩) fun _ _ z => z⟩
    cases d with
    | int i =>
      cases d2 with
      | int j =>
        cases d3 with
        | int c =>
          have z1 : OutP (if -(2 ^ 62) ≤ i ∧ i < 2 ^ 62 ∧ -(2 ^ 62) ≤ j ∧ j < 2 ^ 62 ∧ c = -1 then Out.ok (rgC i (-1) (i - j).toNat) q3 else .bad) _ _ := z3
          split at z1
          · rename_i k
            obtain ⟨k1, k2, k3, k4, k5⟩ := k
            subst k5
            exact ⟨i, j, -1, (i - j).toNat, by rw [r1.int, r2.int, r3.int], RgC.neg k1 k2 k3 k4, z1 _ G3 H3 ((x1.trans x2).trans x3) y3 it_rangeC⟩
          · exact z1.elim
        | _ => exact z3.elim
      | _ => exact z3.elim
    | _ => exact z3.elim
/-- zip of two lists, of two tuples -/
def kZip : List D → Option (List D)
  | [.lst xs, .lst ys] => some (zipD xs ys)
  | [.tup xs, .tup ys] => some (zipD xs ys)
  | _ => none
def mZip (a : AM) : AM := fun env p => (a env p).bind fun ds q => match kZip ds with
  | some z => .ok z q
  | none => .bad
theorem im_zip {elts : List Expr} {kk : Nat} {tpos : Pos} (hm : X.mg "zip" = none) (h : PA X [e, e2] (rA C W a)) (hg : Gl X "zip" := by rfl) (hs : starEach [e, e2] X.env = (false, eval e X.env) :: starEach [e2] X.env := by rfl) (hpl : (backTo pos (starEach [e2] X.env)).any (·.1) = false := by rfl) :
    PI X (.Tuple elts kk tpos) (.Call (.Name "zip" p) [e, e2] [] pos) (rI C W fz (mZip a)) := (RZ.pi_zipA hg hm h hs hpl).of fun σ H R ⟨G, env, p, L, o⟩ => by
  refine ⟨G, env, p, L, o.bind.imp (fun ds q z vs G1 H1 x1 y1 r1 => ?_) fun _ _ z => z⟩
  unfold kZip at z
  split at z
  · rename_i u hu
    split at hu
    · cases hu
      cases r1 with
      | cons ra t =>
        cases t with
        | cons rb t =>
          cases t
          cases ra with
          | lst h1 q1 =>
            cases rb with
            | lst h2 q2 => exact ⟨_, _, _, _, rfl, .inl ⟨SqL.of (x1.sub _ _ h1), SqL.of (x1.sub _ _ h2), z _ G1 H1 x1 y1 (it_zipL (.inl h1) (.inl h2) q1 q2)⟩⟩
    · cases hu
      cases r1 with
      | cons ra t =>
        cases t with
        | cons rb t =>
          cases t
          cases ra with
          | tup h1 q1 =>
            cases rb with
            | tup h2 q2 => exact ⟨_, _, _, _, rfl, .inr ⟨SqT.of (x1.sub _ _ h1), SqT.of (x1.sub _ _ h2), z _ G1 H1 x1 y1 (it_zipT (.inl h1) (.inl h2) q1 q2)⟩⟩
    · cases hu
  · exact z.elim
theorem im_zipB {elts : List Expr} {kk : Nat} {tpos : Pos} (hm : X.mg "zip" = none) (h : PA X [e, e2] (rAB C W a)) (hg : Gl X "zip" := by rfl) (hs : starEach [e, e2] X.env = (false, eval e X.env) :: starEach [e2] X.env := by rfl) (hpl : (backTo pos (starEach [e2] X.env)).any (·.1) = false := by rfl) :
    PI X (.Tuple elts kk tpos) (.Call (.Name "zip" p) [e, e2] [] pos) (rI C W false (mZip a)) := (RZ.pi_zipA hg hm h hs hpl).of fun σ H R ⟨G, env, p, L, o⟩ => by
  refine ⟨G, env, p, L, o.bind.imp (fun ds q z vs G1 H1 x1 y1 r1 => ?_) fun _ _ z => z⟩
  have L1 := L.step x1 y1
  unfold kZip at z
  split at z
  · rename_i u hu
    split at hu
    · cases hu
      obtain ⟨v, w, rfl, ra, rb⟩ := r1.two
      obtain ⟨b1, v1, rfl, s1, q1⟩ := ra.stay L1
      obtain ⟨b2, v2, rfl, s2, q2⟩ := rb.stay L1
      exact ⟨_, _, _, _, rfl, .inl ⟨SqL.of (s1.at (Sub.refl _) L1.sub (fun _ _ _ h _ _ => h) fun _ z => by cases z), SqL.of (s2.at (Sub.refl _) L1.sub (fun _ _ _ h _ _ => h) fun _ z => by cases z), z _ G1 H1 x1 y1 (it_zipL s1 s2 q1 q2)⟩⟩
    · cases hu
      obtain ⟨v, w, rfl, ra, rb⟩ := r1.two
      obtain ⟨b1, v1, rfl, h1, q1⟩ := ra.tup
      obtain ⟨b2, v2, rfl, h2, q2⟩ := rb.tup
      exact ⟨_, _, _, _, rfl, .inr ⟨SqT.of (x1.sub _ _ h1), SqT.of (x1.sub _ _ h2), z _ G1 H1 x1 y1 (it_zipT (.inl h1) (.inl h2) q1 q2)⟩⟩
    · cases hu
  · exact z.elim
/-- enumerate of a list -/
def mEnum (m : EM) : AM := fun env p => (m env p).bind fun d q => match d with
  | .lst xs => .ok (enumD xs) q
  | _ => .bad
theorem im_enum {elts : List Expr} {kk : Nat} {tpos : Pos} (hm : X.mg "enumerate" = none) (h : PE X e (rE C W m)) (hg : Gl X "enumerate" := by rfl) (hs : starEach [e] X.env = [(false, eval e X.env)] := by rfl) :
    PI X (.Tuple elts kk tpos) (.Call (.Name "enumerate" p) [e] [] pos) (rI C W fz (mEnum m)) := (pi_enum hg hm (pa_cons h pa_nil hs) hs).of fun σ H R ⟨G, env, p, L, o⟩ => by
  refine ⟨G, env, p, L, o.bind.imp (fun d q z v G1 H1 x1 y1 r1 => ?_) fun _ _ z => z⟩
  cases d with
  | lst xs =>
    cases r1 with
    | lst h1 q1 => exact ⟨_, _, rfl, SqL.of (x1.sub _ _ h1), z _ G1 H1 x1 y1 (it_enum (.inl h1) q1)⟩
  | _ => exact z.elim
theorem im_enumB {elts : List Expr} {kk : Nat} {tpos : Pos} (hm : X.mg "enumerate" = none) (h : PE X e (rB C W m)) (hg : Gl X "enumerate" := by rfl) (hs : starEach [e] X.env = [(false, eval e X.env)] := by rfl) :
    PI X (.Tuple elts kk tpos) (.Call (.Name "enumerate" p) [e] [] pos) (rI C W false (mEnum m)) := (pi_enum hg hm (pa_cons h pa_nil hs) hs).of fun σ H R ⟨G, env, p, L, o⟩ => by
  refine ⟨G, env, p, L, o.bind.imp (fun d q z v G1 H1 x1 y1 r1 => ?_) fun _ _ z => z⟩
  have L1 := L.step x1 y1
  cases d with
  | lst xs =>
    obtain ⟨b1, v1, rfl, s1, q1⟩ := r1.stay L1
    exact ⟨_, _, rfl, SqL.of (s1.at (Sub.refl _) L1.sub (fun _ _ _ h _ _ => h) fun _ z => by cases z), z _ G1 H1 x1 y1 (it_enum s1 q1)⟩
  | _ => exact z.elim
end
end Pu
end

section
set_option maxHeartbeats 2000000
namespace Pu
open PySem PySem.Spec PyProof.Rows L2

/-! ### targets -/
abbrev GM := D → Env → Option Env
abbrev GMs := List D → Env → Option Env
/-- the own lists behind are own lists before -/
def Less (σ' : St) (env' : Env) (σ : St) (env : Env) : Prop := ∀ (i : Nat) (ds : List D) (a : Addr), env'[i]? = some (.own ds) → σ'[i]? = some (some (.ref a)) → env[i]? = some (.own ds) ∧ σ[i]? = some (some (.ref a))
theorem Less.refl (σ : St) (env : Env) : Less σ env σ env := fun _ _ _ h1 h2 => ⟨h1, h2⟩
theorem Less.trans {σ σ1 σ2 : St} {env env1 env2 : Env} (a : Less σ2 env2 σ1 env1) (b : Less σ1 env1 σ env) : Less σ2 env2 σ env := fun i ds x h1 h2 => b i ds x (a i ds x h1 h2).1 (a i ds x h1 h2).2
/-- but for the slots in is nothing has changed -/
structure Same (is : List Nat) (σ' σ : St) : Prop where
  len : σ'.length = σ.length
  out : ∀ j, j ∉ is → σ'[j]? = σ[j]?
def rG (C : Ctx) (is : List Nat) (g : GM) : TG := fun v σ H Q => ∃ G env p d env', LOk C G H σ env p ∧ Rep C G v d ∧ g d env = some env' ∧
  ∀ σ', LOk C G H σ' env' p → Less σ' env' σ env → Same is σ' σ → Q σ' H
def rGs (C : Ctx) (is : List Nat) (g : GMs) : TGs := fun vs σ H Q => ∃ G env p ds env', LOk C G H σ env p ∧ Reps C G vs ds ∧ g ds env = some env' ∧
  ∀ σ', LOk C G H σ' env' p → Less σ' env' σ env → Same is σ' σ → Q σ' H
theorem _root_.L2.PG.of {X : Cx} {e : Expr} {t t' : TG} (h : PG X e t) (i : ∀ v σ H Q, t' v σ H Q → t v σ H Q) : PG X e t' := ⟨fun pins s σ H v u Q I r z => h.run pins s σ H v u Q I r (i _ _ _ _ z)⟩
theorem _root_.L2.PGs.of {X : Cx} {e : List Expr} {t t' : TGs} (h : PGs X e t) (i : ∀ v σ H Q, t' v σ H Q → t v σ H Q) : PGs X e t' := ⟨fun pins s σ H v u Q I r z => h.run pins s σ H v u Q I r (i _ _ _ _ z)⟩
section
variable {C : Ctx} {G H : Hp} {σ : St} {env : Env} {p : Pen}
theorem set_at {α : Type} {l : List α} {i j : Nat} {x y : α} (h : (l.set i x)[j]? = some y) : (j = i ∧ y = x) ∨ (j ≠ i ∧ l[j]? = some y) := by
  by_cases e : j = i
  · subst e
    obtain ⟨h1, h2⟩ := List.getElem?_eq_some_iff.mp h
    rw [List.getElem_set_self] at h2
    exact .inl ⟨rfl, h2.symm⟩
  · rw [List.getElem?_set_ne (fun z => e z.symm)] at h
    exact .inr ⟨e, h⟩
/-- a slot gets a frozen value -/
theorem LOk.setV (L : LOk C G H σ env p) (i : Nat) {v : V} {d : D} (r : Rep C G v d) : LOk C G H (σ.set i (some v)) (env.set i (.val d)) p := by
  refine ⟨L.sub, L.tab, L.pen, by rw [List.length_set, List.length_set, L.len], fun j x s h1 h2 => ?_, fun j k ds es a h1 h2 h3 h4 => ?_, L.nt⟩
  · rcases set_at h1 with ⟨e1, e2⟩ | ⟨e1, e2⟩
    · rcases set_at h2 with ⟨e3, e4⟩ | ⟨e3, e4⟩
      · subst e2 e4
        exact .val r
      · exact absurd e1 e3
    · rcases set_at h2 with ⟨e3, e4⟩ | ⟨e3, e4⟩
      · exact absurd e3 e1
      · exact L.slot j x s e2 e4
  · rcases set_at h1 with ⟨_, z⟩ | ⟨e1, h1⟩
    · cases z
    · rcases set_at h2 with ⟨_, z⟩ | ⟨e2, h2⟩
      · cases z
      · rcases set_at h3 with ⟨z, _⟩ | ⟨_, h3⟩
        · exact absurd z e1
        · rcases set_at h4 with ⟨z, _⟩ | ⟨_, h4⟩
          · exact absurd z e2
          · exact L.dis j k ds es a h1 h2 h3 h4
theorem Less.setV (i : Nat) {v : Option V} {d : D} : Less (σ.set i v) (env.set i (.val d)) σ env := fun j ds a h1 h2 => by
  rcases set_at h1 with ⟨_, z⟩ | ⟨e1, h1⟩
  · cases z
  · rcases set_at h2 with ⟨z, _⟩ | ⟨_, h2⟩
    · exact absurd z e1
    · exact ⟨h1, h2⟩
/-- a slot forgotten -/
theorem LOk.setU (L : LOk C G H σ env p) (i : Nat) {v : Option V} : LOk C G H (σ.set i v) (env.set i .un) p := by
  refine ⟨L.sub, L.tab, L.pen, by rw [List.length_set, List.length_set, L.len], fun j x s h1 h2 => ?_, fun j k ds es a h1 h2 h3 h4 => ?_, L.nt⟩
  · rcases set_at h1 with ⟨e1, e2⟩ | ⟨e1, e2⟩
    · rcases set_at h2 with ⟨e3, e4⟩ | ⟨e3, e4⟩
      · subst e4
        exact .un _
      · exact absurd e1 e3
    · rcases set_at h2 with ⟨e3, e4⟩ | ⟨e3, e4⟩
      · exact absurd e3 e1
      · exact L.slot j x s e2 e4
  · rcases set_at h1 with ⟨_, z⟩ | ⟨e1, h1⟩
    · cases z
    · rcases set_at h2 with ⟨_, z⟩ | ⟨e2, h2⟩
      · cases z
      · rcases set_at h3 with ⟨z, _⟩ | ⟨_, h3⟩
        · exact absurd z e1
        · rcases set_at h4 with ⟨z, _⟩ | ⟨_, h4⟩
          · exact absurd z e2
          · exact L.dis j k ds es a h1 h2 h3 h4
theorem Less.setU (i : Nat) {v : Option V} : Less (σ.set i v) (env.set i .un) σ env := fun j ds a h1 h2 => by
  rcases set_at h1 with ⟨_, z⟩ | ⟨e1, h1⟩
  · cases z
  · rcases set_at h2 with ⟨z, _⟩ | ⟨_, h2⟩
    · exact absurd z e1
    · exact ⟨h1, h2⟩
/-- a slot gets a list of the frame's own -/
theorem LOk.setO (L : LOk C G H σ env p) (i : Nat) {l : Addr} {vs : List V} {ds : List D} (h : H l = some (.lst vs)) (n : G l = none) (r : Reps C G vs ds) (f : ∀ (j : Nat) (es : List D), env[j]? = some (.own es) → σ[j]? ≠ some (some (.ref l))) : LOk C G H (σ.set i (some (.ref l))) (env.set i (.own ds)) p := by
  refine ⟨L.sub, L.tab, L.pen, by rw [List.length_set, List.length_set, L.len], fun j x s h1 h2 => ?_, fun j k ds es a h1 h2 h3 h4 => ?_, L.nt⟩
  · rcases set_at h1 with ⟨e1, e2⟩ | ⟨e1, e2⟩
    · rcases set_at h2 with ⟨e3, e4⟩ | ⟨e3, e4⟩
      · subst e2 e4
        exact .own h n r
      · exact absurd e1 e3
    · rcases set_at h2 with ⟨e3, e4⟩ | ⟨e3, e4⟩
      · exact absurd e3 e1
      · exact L.slot j x s e2 e4
  · rcases set_at h3 with ⟨z1, z2⟩ | ⟨e3, h3⟩
    · rcases set_at h4 with ⟨y1, y2⟩ | ⟨e4, h4⟩
      · rw [z1, y1]
      · cases z2
        rcases set_at h2 with ⟨z, _⟩ | ⟨_, h2⟩
        · exact absurd z e4
        · exact absurd h4 (f _ _ h2)
    · rcases set_at h4 with ⟨y1, y2⟩ | ⟨e4, h4⟩
      · cases y2
        rcases set_at h1 with ⟨z, _⟩ | ⟨_, h1⟩
        · exact absurd z e3
        · exact absurd h3 (f _ _ h1)
      · rcases set_at h1 with ⟨z, _⟩ | ⟨_, h1⟩
        · exact absurd z e3
        · rcases set_at h2 with ⟨z, _⟩ | ⟨_, h2⟩
          · exact absurd z e4
          · exact L.dis j k _ _ a h1 h2 h3 h4
end
def gNm (i : Nat) : GM := fun d env => some (env.set i (.val d))
def gsNil : GMs := fun ds env => match ds with
  | [] => some env
  | _ => none
def gsCons (g : GM) (gs : GMs) : GMs := fun ds env => match ds with
  | d :: r => (g d env).bind fun env' => gs r env'
  | [] => none
def gTp (gs : GMs) : GM := fun d env => match d with
  | .tup ds => gs ds env
  | _ => none
section
variable {X : Cx} {C : Ctx} {pos : Pos}
theorem gm_name (i : Nat) {x : Str} (hN : X.N.Nodup) (hi : X.N[i]? = some x := by rfl) (hx : Loc X.env.scope x := by first | exact Or.inl rfl | exact Or.inr rfl) (hf : X.fn x = true ∨ X.env.scope.names.lookup x = some .local := by first | exact .inl rfl | exact .inr rfl) : PG X (.Name x pos) (rG C [i] (gNm i)) :=
  (pg_name hN hi hx hf).of fun v σ H Q ⟨G, env, p, d, env', L, r, e, q⟩ => by
    cases e
    exact q _ (L.setV i r) (Less.setV i) ⟨List.length_set, fun j hj => List.getElem?_set_ne (fun z => hj (by rw [z]; exact List.mem_singleton.mpr rfl))⟩
theorem gms_nil : PGs X [] (rGs C [] gsNil) := pgs_nil.of fun vs σ H Q ⟨G, env, p, ds, env', L, r, e, q⟩ => by
  cases r with
  | nil =>
    cases e
    exact ⟨rfl, q σ L (Less.refl _ _) ⟨rfl, fun _ _ => rfl⟩⟩
  | cons _ _ => cases e
theorem gms_cons {e : Expr} {es : List Expr} {i1 i2 : List Nat} {g : GM} {gs : GMs} (h1 : PG X e (rG C i1 g)) (h2 : PGs X es (rGs C i2 gs)) (hs : (assignEach (e :: es) X.env).map (·.2) = assign e X.env :: (assignEach es X.env).map (·.2) := by rfl) : PGs X (e :: es) (rGs C (i1 ++ i2) (gsCons g gs)) :=
  (pgs_cons h1 h2 hs).of fun vs σ H Q ⟨G, env, p, ds, env', L, r, e, q⟩ => by
    cases r with
    | nil => cases e
    | @cons v d vs ds r1 r2 =>
      have e : (g d env).bind (fun env' => gs ds env') = some env' := e
      cases e1 : g d env with
      | none =>
        rw [e1] at e
        cases e
      | some env1 =>
        rw [e1] at e
        exact ⟨v, vs, rfl, G, env, p, d, env1, L, r1, e1, fun σ1 L1 l1 k1 => ⟨G, env1, p, ds, env', L1, r2, e, fun σ2 L2 l2 k2 => q σ2 L2 (l2.trans l1) ⟨k2.len.trans k1.len, fun j hj => by
          rw [List.mem_append, not_or] at hj
          rw [k2.out j hj.2, k1.out j hj.1]⟩⟩⟩
theorem gm_tup {es : List Expr} {k n : Nat} {is : List Nat} {gs : GMs} (hc : X.calm = true) (h : PGs X es (rGs C is gs)) (hl : ∀ ds env env', gs ds env = some env' → ds.length = n) (hn : (assignEach es X.env).length = n := by rfl) (hst : (assignEach es X.env).findIdx? (·.1) = none := by rfl) : PG X (.Tuple es k pos) (rG C is (gTp gs)) :=
  (pg_tup hc h hn hst).of fun v σ H Q ⟨G, env, p, d, env', L, r, e, q⟩ => by
    unfold gTp at e
    cases r with
    | @tup a vs ds h1 r1 => exact ⟨a, vs, rfl, SqT.of (L.sub _ _ h1), by rw [r1.length]; exact hl _ _ _ e, G, env, p, ds, env', L, r1, e, q⟩
    | _ => cases e
theorem gl0 : ∀ ds env env', gsNil ds env = some env' → ds.length = 0 := fun ds env env' h => by
  cases ds with
  | nil => rfl
  | cons _ _ => cases h
theorem gl {g : GM} {gs : GMs} {n : Nat} (h : ∀ ds env env', gs ds env = some env' → ds.length = n) : ∀ ds env env', gsCons g gs ds env = some env' → ds.length = n + 1 := fun ds env env' e => by
  cases ds with
  | nil => cases e
  | cons d r =>
    have e : (g d env).bind (fun env' => gs r env') = some env' := e
    cases e1 : g d env with
    | none =>
      rw [e1] at e
      cases e
    | some env1 =>
      rw [e1] at e
      rw [List.length_cons, h _ _ _ e]
end

/-! ### statements -/
inductive Res where
  | next (env : Env) (p : Pen)
  | ret (d : D) (p : Pen)
  | brk (env : Env) (p : Pen)
  | cnt (env : Env) (p : Pen)
  | err (e : Err) (env : Env) (p : Pen)
  | bad
abbrev SM := Env → Pen → Res
/-- a frame on its way: since the entry (G0, H0) nothing but the pen and tables turned, its own lists are new -/
structure SOk (C : Ctx) (G0 H0 G H : Hp) (σ : St) (env : Env) (p : Pen) : Prop where
  l : LOk C G H σ env p
  x : Ext C G0 H0 G H
  f : ∀ (i : Nat) (ds : List D) (a : Addr), env[i]? = some (.own ds) → σ[i]? = some (some (.ref a)) → H0 a = none
theorem SOk.step {C : Ctx} {G0 H0 G H G' H' : Hp} {σ : St} {env : Env} {p q : Pen} (S : SOk C G0 H0 G H σ env p) (x : Ext C G H G' H') (y : PenAt C G' H' q) : SOk C G0 H0 G' H' σ env q := ⟨S.l.step x y, S.x.trans x, S.f⟩
def ResP (C : Ctx) (W : WX) (G0 H0 G : Hp) (D : Ends) (r : Res) : Prop := match r with
  | .next env q => ∀ σ' G' H', SOk C G0 H0 G' H' σ' env q → Sub G G' → D.nx σ' H'
  | .ret d q => ∀ v G' H', Ext C G0 H0 G' H' → PenAt C G' H' q → Rep C G' v d → D.rt v H'
  | .brk env q => ∀ σ' G' H', SOk C G0 H0 G' H' σ' env q → Sub G G' → D.bk σ' H'
  | .cnt env q => ∀ σ' G' H', SOk C G0 H0 G' H' σ' env q → Sub G G' → D.ct σ' H'
  | .err e env q => ∀ cls dd σ' G' H', SOk C G0 H0 G' H' σ' env q → Sub G G' → ErrRep C G' H' cls dd e → W cls dd σ' H'
  | .bad => False
def rS (C : Ctx) (W : WX) (m : SM) : TS := fun D σ H => ∃ G0 H0 G env p, SOk C G0 H0 G H σ env p ∧ ResP C W G0 H0 G D (m env p)
theorem ResP.gro {C : Ctx} {W : WX} {G0 H0 G G1 : Hp} {D : Ends} {r : Res} (h : ResP C W G0 H0 G D r) (s : Sub G G1) : ResP C W G0 H0 G1 D r := by
  cases r with
  | next env q => exact fun σ' G' H' S x => h σ' G' H' S (s.trans x)
  | ret d q => exact h
  | brk env q => exact fun σ' G' H' S x => h σ' G' H' S (s.trans x)
  | cnt env q => exact fun σ' G' H' S x => h σ' G' H' S (s.trans x)
  | err e env q => exact fun cls dd σ' G' H' S x => h cls dd σ' G' H' S (s.trans x)
  | bad => exact h
/-- an expression's error as the block's -/
theorem ResP.errP {C : Ctx} {W : WX} {G0 H0 G H G1 : Hp} {D : Ends} {σ : St} {env : Env} {p q : Pen} {e : Err} (h : ResP C W G0 H0 G1 D (.err e env q)) (S : SOk C G0 H0 G H σ env p) (s1 : Sub G1 G) : ErrP C W G H σ e q := fun cls dd G' H' x y r => h cls dd σ G' H' (S.step x y) (s1.trans x.gro) r
def mNext : SM := fun env p => .next env p
def mSeq (a b : SM) : SM := fun env p => match a env p with
  | .next env' q => b env' q
  | r => r
def mBrk : SM := fun env p => .brk env p
def mCnt : SM := fun env p => .cnt env p
def mRetN : SM := fun _ p => .ret .non p
/-- with an expression's outcome -/
def _root_.Pu.Out.res {α : Type} (o : Out α) (env : Env) (k : α → Pen → Res) : Res := match o with
  | .ok a p => k a p
  | .err e p => .err e env p
  | .bad => .bad
theorem ResP.out {α : Type} {C : Ctx} {W : WX} {G0 H0 G H : Hp} {D : Ends} {σ : St} {env : Env} {p : Pen} {o : Out α} {k : α → Pen → Res} (h : ResP C W G0 H0 G D (o.res env k)) (S : SOk C G0 H0 G H σ env p) : OutP o (fun a q => ResP C W G0 H0 G D (k a q)) (ErrP C W G H σ) := by
  cases o with
  | ok a q => exact h
  | err e q => exact ResP.errP h S (Sub.refl _)
  | bad => exact h
def mRet (m : EM) : SM := fun env p => (m env p).res env fun d q => .ret d q
def mDrop (m : EM) : SM := fun env p => (m env p).res env fun d q => .next env q
def mIfS (t : TM) (a b : SM) : SM := fun env p => (t env p).res env fun k q => if k = true then a env q else b env q
def mSet (m : EM) (g : GM) : SM := fun env p => (m env p).res env fun d q => match g d env with
  | some env' => .next env' q
  | none => .bad
def mSetO (m : AM) (i : Nat) : SM := fun env p => (m env p).res env fun ds q => .next (env.set i (.own ds)) q
section
variable {X : Cx} {C : Ctx} {W : WX} {pos : Pos} {st : Stmt} {rest : List Stmt} {a b : SM} {e : Expr} {m : EM}
theorem sm_nil : PSs X [] (rS C W mNext) := pss_nil.of fun D σ H ⟨G0, H0, G, env, p, S, o⟩ => o σ G H S (Sub.refl _)
theorem rd_seq {D : Ends} {σ : St} {H : Hp} (h : rS C W (mSeq a b) D σ H) : tSeq (rS C W a) (rS C W b) D σ H := by
  obtain ⟨G0, H0, G, env, p, S, o⟩ := h
  refine ⟨G0, H0, G, env, p, S, ?_⟩
  unfold mSeq at o
  cases r : a env p with
  | next env' q =>
    rw [r] at o
    exact fun σ' G' H' S' s => ⟨G0, H0, G', env', q, S', o.gro s⟩
  | ret d q =>
    rw [r] at o
    exact o
  | brk env' q =>
    rw [r] at o
    exact o
  | cnt env' q =>
    rw [r] at o
    exact o
  | err e env' q =>
    rw [r] at o
    exact o
  | bad =>
    rw [r] at o
    exact o
theorem sm_cons (h1 : PS X st (rS C W a)) (h2 : PSs X rest (rS C W b)) : PSs X (st :: rest) (rS C W (mSeq a b)) := (pss_cons h1 h2).of fun _ _ _ h => rd_seq h
theorem sm_one (h1 : PS X st (rS C W a)) : PSs X [st] (rS C W a) := pss_one h1
theorem sm_pass : PS X (.Pass pos) (rS C W mNext) := ps_pass.of fun D σ H ⟨G0, H0, G, env, p, S, o⟩ => o σ G H S (Sub.refl _)
theorem sm_break : PS X (.Break pos) (rS C W mBrk) := ps_break.of fun D σ H ⟨G0, H0, G, env, p, S, o⟩ => o σ G H S (Sub.refl _)
theorem sm_continue : PS X (.Continue pos) (rS C W mCnt) := ps_continue.of fun D σ H ⟨G0, H0, G, env, p, S, o⟩ => o σ G H S (Sub.refl _)
theorem sm_retN : PS X (.Return none pos) (rS C W mRetN) := ps_retN.of fun D σ H ⟨G0, H0, G, env, p, S, o⟩ => o .non G H S.x S.l.pen .non
theorem sm_ret (h : PE X e (rE C W m)) : PS X (.Return (some e) pos) (rS C W (mRet m)) := (ps_ret h).of fun D σ H ⟨G0, H0, G, env, p, S, o⟩ =>
  ⟨G, env, p, S.l, (o.out S).imp (fun d q z v G1 H1 x1 y1 r1 => z v G1 H1 (S.x.trans x1) y1 r1) fun _ _ z => z⟩
theorem sm_expr (h : PE X e (rB C W m)) (hs : swapsWith e none pos.line X.env = pure false := by rfl) : PS X (.Expr e pos) (rS C W (mDrop m)) := (ps_expr h hs).of fun D σ H ⟨G0, H0, G, env, p, S, o⟩ =>
  ⟨G, env, p, S.l, (o.out S).imp (fun d q z v G1 H1 x1 y1 r1 => z σ G1 H1 (S.step x1 y1) x1.gro) fun _ _ z => z⟩
theorem sm_if {t : Expr} {ss ts : List Stmt} {mt : TM} (ht : PT X t (rT C W mt)) (ha : PSs X ss (rS C W a)) (hb : PSs X ts (rS C W b)) : PS X (.If t ss ts pos) (rS C W (mIfS mt a b)) := (ps_if ht ha hb).of fun D σ H ⟨G0, H0, G, env, p, S, o⟩ => by
  refine ⟨G, env, p, S.l, (o.out S).imp (fun k q z G1 H1 x1 y1 => ?_) fun _ _ z => z⟩
  cases k with
  | true =>
    rw [if_pos rfl]
    rw [if_pos rfl] at z
    exact ⟨G0, H0, G1, env, q, S.step x1 y1, z.gro x1.gro⟩
  | false =>
    rw [if_neg Bool.false_ne_true]
    rw [if_neg Bool.false_ne_true] at z
    exact ⟨G0, H0, G1, env, q, S.step x1 y1, z.gro x1.gro⟩
theorem SOk.less {G0 H0 G H : Hp} {σ σ' : St} {env env' : Env} {p : Pen} (S : SOk C G0 H0 G H σ env p) (L : LOk C G H σ' env' p) (l : Less σ' env' σ env) : SOk C G0 H0 G H σ' env' p := ⟨L, S.x, fun i ds x h1 h2 => S.f i ds x (l i ds x h1 h2).1 (l i ds x h1 h2).2⟩
theorem rd_set {is : List Nat} {g : GM} {D : Ends} {σ : St} {H : Hp} (h : rS C W (mSet m g) D σ H) : tAsg (rE C W m) (rG C is g) D σ H := by
  obtain ⟨G0, H0, G, env, p, S, o⟩ := h
  refine ⟨G, env, p, S.l, (o.out S).imp (fun d q z v G1 H1 x1 y1 r1 => ?_) fun _ _ z => z⟩
  cases eg : g d env with
  | none =>
    rw [eg] at z
    exact z.elim
  | some env' =>
    rw [eg] at z
    exact ⟨G1, env, q, d, env', (S.step x1 y1).l, r1, eg, fun σ' L' l' _ => z σ' G1 H1 ((S.step x1 y1).less L' l') x1.gro⟩
/-- target = value -/
theorem sm_asg {tg : Expr} {is : List Nat} {g : GM} (h : PE X e (rE C W m)) (hg : PG X tg (rG C is g)) (hs : swapsWithSole [tg] e pos.line X.env = pure false := by rfl) (hw : swappedStores [tg] e X.env = pure none := by rfl)
    (h1 : (assignEach [tg] X.env).map (·.2) = [assign tg X.env] := by rfl) : PS X (.Assign [tg] e pos) (rS C W (mSet m g)) := (ps_asg h hg hs hw h1).of fun _ _ _ z => rd_set z
theorem SOk.setV {G0 H0 G H : Hp} {σ : St} {env : Env} {p : Pen} (S : SOk C G0 H0 G H σ env p) (i : Nat) {v : V} {d : D} (r : Rep C G v d) : SOk C G0 H0 G H (σ.set i (some v)) (env.set i (.val d)) p := S.less (S.l.setV i r) (Less.setV i)
theorem SOk.setO {G0 H0 G H : Hp} {σ : St} {env : Env} {p : Pen} (S : SOk C G0 H0 G H σ env p) (i : Nat) {l : Addr} {vs : List V} {ds : List D} (h : H l = some (.lst vs)) (n : G l = none) (h0 : H0 l = none) (r : Reps C G vs ds) (f : ∀ (j : Nat) (es : List D), env[j]? = some (.own es) → σ[j]? ≠ some (some (.ref l))) : SOk C G0 H0 G H (σ.set i (some (.ref l))) (env.set i (.own ds)) p :=
  ⟨S.l.setO i h n r f, S.x, fun j es x h1 h2 => by
    rcases set_at h1 with ⟨e1, e2⟩ | ⟨e1, h1⟩
    · rcases set_at h2 with ⟨_, z⟩ | ⟨z, _⟩
      · cases z
        exact h0
      · exact absurd e1 z
    · rcases set_at h2 with ⟨z, _⟩ | ⟨_, h2⟩
      · exact absurd z e1
      · exact S.f j es x h1 h2⟩
/-- name = value -/
theorem sm_set (i : Nat) {x : Str} {pos' : Pos} (hN : X.N.Nodup) (h : PE X e (rE C W m)) (hi : X.N[i]? = some x := by rfl) (hx : Loc X.env.scope x := by first | exact Or.inl rfl | exact Or.inr rfl) (hs : swapsWith e (some (.Name x pos')) pos.line X.env = pure false := by rfl) (hf : X.fn x = true ∨ X.env.scope.names.lookup x = some .local := by first | exact .inl rfl | exact .inr rfl) :
    PS X (.Assign [.Name x pos'] e pos) (rS C W (mSet m (gNm i))) := (ps_set hN hi hx h hs hf).of fun D σ H z => by
  obtain ⟨G0, H0, G, env, p, S, o⟩ := z
  exact ⟨G, env, p, S.l, (o.out S).imp (fun d q z v G1 H1 x1 y1 r1 => z _ G1 H1 ((S.step x1 y1).setV i r1) x1.gro) fun _ _ z => z⟩
theorem LOk.notOwn {G H G1 : Hp} {σ : St} {env : Env} {p : Pen} (L : LOk C G H σ env p) {l : Addr} (hl : H l = none) : ∀ (j : Nat) (es : List D), env[j]? = some (.own es) → σ[j]? ≠ some (some (.ref l)) := fun j es h1 h2 => by
  obtain ⟨a, vs, e1, e2, _⟩ := L.own h1
  rw [h2] at e1
  cases e1
  rw [hl] at e2
  cases e2
theorem rd_setO {i : Nat} {r : AM} {D : Ends} {σ : St} {H : Hp} (h : rS C W (mSetO r i) D σ H) : tAsg (rF C W r) (gName i) D σ H := by
  obtain ⟨G0, H0, G, env, p, S, o⟩ := h
  exact ⟨G, env, p, S.l, (o.out S).imp (fun ds q z l vs G1 H1 x1 y1 hl hg hh r1 => z _ G1 H1 ((S.step x1 y1).setO i hh hg (S.x.fre _ hl) r1 (S.l.notOwn (G1 := G) hl)) x1.gro) fun _ _ z => z⟩
/-- name = a list just made: the frame's own -/
theorem sm_setO (i : Nat) {x : Str} {pos' : Pos} {r : AM} (hN : X.N.Nodup) (h : PE X e (rF C W r)) (hi : X.N[i]? = some x := by rfl) (hx : Loc X.env.scope x := by first | exact Or.inl rfl | exact Or.inr rfl) (hs : swapsWith e (some (.Name x pos')) pos.line X.env = pure false := by rfl) (hf : X.fn x = true ∨ X.env.scope.names.lookup x = some .local := by first | exact .inl rfl | exact .inr rfl) :
    PS X (.Assign [.Name x pos'] e pos) (rS C W (mSetO r i)) := (ps_set hN hi hx h hs hf).of fun _ _ _ z => rd_setO z
end
end Pu
end

section
set_option maxHeartbeats 2000000
namespace Pu
open PySem PySem.Spec PyProof.Rows L2

/-! ### for -/
def loopS (g : GM) (b : SM) : List D → Env → Pen → Res
  | [], env, p => .next env p
  | d :: ds, env, p => match g d env with
    | none => .bad
    | some env1 => match b env1 p with
      | .next env2 q => loopS g b ds env2 q
      | .cnt env2 q => loopS g b ds env2 q
      | .brk env2 q => .next env2 q
      | r => r
def mFor (it : AM) (g : GM) (b : SM) : SM := fun env p => (it env p).res env fun ds q => loopS g b ds env q
section
variable {X : Cx} {C : Ctx} {W : WX} {pos : Pos} {tg iter : Expr} {body : List Stmt} {it : AM} {is : List Nat} {g : GM} {b : SM}
theorem rd_for {D : Ends} {σ : St} {H : Hp} (h : rS C W (mFor it g b) D σ H) : tFor (rI C W true it) (rG C is g) (rS C W b) D σ H := by
  obtain ⟨G0, H0, G, env, p, S, o⟩ := h
  refine ⟨G, env, p, S.l, (o.out S).imp (fun ds q z J G1 H1 x1 y1 t => ?_) fun _ _ z => z⟩
  obtain ⟨Gw, Y, w, h1, h2⟩ := t
  refine for_it w (fun i σ' H' => ∃ G' env' p', SOk C G0 H0 G' H' σ' env' p' ∧ Sub G1 G' ∧ ResP C W G0 H0 G' D (loopS g b (ds.drop i) env' p')) ?_ ?_ ?_ ?_
  · exact ⟨G1, env, q, S.step x1 y1, Sub.refl _, by rw [List.drop_zero]; exact z.gro x1.gro⟩
  · rintro i σ' H' hi ⟨G', env', p', S', s', _⟩
    exact h1 G' H' s' S'.l.sub (fun e => by cases e)
  · rintro i x σ' H' H'' hi ⟨G', env', p', S', s', r'⟩ y
    have hd : ds[i]? = some ds[i] := List.getElem?_eq_getElem hi
    obtain ⟨G2, al, rx⟩ := h2 i ds[i] G' H' x H'' hd s' S'.l.sub y
    rw [List.drop_eq_getElem_cons hi] at r'
    cases eg : g ds[i] env' with
    | none =>
      unfold loopS at r'
      rw [eg] at r'
      exact r'.elim
    | some env1 =>
      have S2 : SOk C G0 H0 G2 H'' σ' env' p' := S'.step (S'.l.ext al) (S'.l.pen.alc al)
      refine ⟨G2, env', p', ds[i], env1, S2.l, rx, eg, fun σ1 L1 l1 _ => ⟨G0, H0, G2, env1, p', S2.less L1 l1, ?_⟩⟩
      have r2 : ResP C W G0 H0 G' D (match b env1 p' with
        | .next env2 q => loopS g b (ds.drop (i + 1)) env2 q
        | .cnt env2 q => loopS g b (ds.drop (i + 1)) env2 q
        | .brk env2 q => .next env2 q
        | r => r) := by
        unfold loopS at r'
        rw [eg] at r'
        exact r'
      have r3 := r2.gro al.gro
      cases e : b env1 p' with
      | next env2 q2 =>
        rw [e] at r3
        exact fun σ3 G3 H3 S3 s3 => ⟨G3, env2, q2, S3, (s'.trans al.gro).trans s3, r3.gro s3⟩
      | cnt env2 q2 =>
        rw [e] at r3
        exact fun σ3 G3 H3 S3 s3 => ⟨G3, env2, q2, S3, (s'.trans al.gro).trans s3, r3.gro s3⟩
      | brk env2 q2 =>
        rw [e] at r3
        exact r3
      | ret d q2 =>
        rw [e] at r3
        exact r3
      | err er env2 q2 =>
        rw [e] at r3
        exact r3
      | bad =>
        rw [e] at r3
        exact r3
  · rintro σ' H' ⟨G', env', p', S', s', r'⟩
    rw [List.drop_length] at r'
    exact r' σ' G' H' S' (Sub.refl _)
theorem sm_for (hp : PassesOwn (model X.prog X.w) X.A X.env X.xe) (hc : X.calm = true) (hi : PI X tg iter (rI C W true it)) (hg : PG X tg (rG C is g)) (hb : PSs X body (rS C W b)) (hs : ∀ x, foldedSetIterable iter X.env x = pure x := by intro _; rfl) : PS X (.For tg iter body [] pos) (rS C W (mFor it g b)) :=
  (ps_for hp hc hi hg hb hs).of fun _ _ _ h => rd_for h

/-! ### while -/
def whileS (t : TM) (b : SM) : Nat → Env → Pen → Res
  | 0, _, _ => .bad
  | n + 1, env, p => (t env p).res env fun k q => if k = true then (match b env q with
    | .next env2 q2 => whileS t b n env2 q2
    | .cnt env2 q2 => whileS t b n env2 q2
    | .brk env2 q2 => .next env2 q2
    | r => r) else .next env q
def mWhile (fuel : Env → Pen → Nat) (t : TM) (b : SM) : SM := fun env p => whileS t b (fuel env p) env p
theorem rd_while {fuel : Env → Pen → Nat} {t : TM} {D : Ends} {σ : St} {H : Hp} (h : rS C W (mWhile fuel t b) D σ H) : tWhile (rT C W t) (rS C W b) D σ H := by
  obtain ⟨G0, H0, G, env, p, S, o⟩ := h
  refine ⟨fun m σ' H' => ∃ G' env' p', SOk C G0 H0 G' H' σ' env' p' ∧ ResP C W G0 H0 G' D (whileS t b m env' p'), ⟨fuel env p, G, env, p, S, o⟩, ?_⟩
  rintro m σ' H' ⟨G', env', p', S', r'⟩
  cases m with
  | zero => exact r'.elim
  | succ m =>
    unfold whileS at r'
    refine ⟨G', env', p', S'.l, (r'.out S').imp (fun k q z G1 H1 x1 y1 => ?_) fun _ _ z => z⟩
    have z1 := z.gro x1.gro
    have S1 := S'.step x1 y1
    cases k with
    | false =>
      show if false = true then _ else D.nx σ' H1
      rw [if_neg Bool.false_ne_true] at z1 ⊢
      exact z1 σ' G1 H1 S1 (Sub.refl _)
    | true =>
      rw [if_pos rfl] at z1
      show if true = true then _ else D.nx σ' H1
      rw [if_pos rfl]
      refine ⟨fun σ2 H2 => ∃ G2 env2 p2, SOk C G0 H0 G2 H2 σ2 env2 p2 ∧ ResP C W G0 H0 G2 D (whileS t b m env2 p2), fun σ2 H2 ⟨G2, env2, p2, S2, r2⟩ => ⟨m, Nat.lt_succ_self m, G2, env2, p2, S2, r2⟩, G0, H0, G1, env', q, S1, ?_⟩
      cases e : b env' q with
      | next env2 q2 =>
        rw [e] at z1
        exact fun σ3 G3 H3 S3 s3 => ⟨G3, env2, q2, S3, z1.gro s3⟩
      | cnt env2 q2 =>
        rw [e] at z1
        exact fun σ3 G3 H3 S3 s3 => ⟨G3, env2, q2, S3, z1.gro s3⟩
      | brk env2 q2 =>
        rw [e] at z1
        exact z1
      | ret d q2 =>
        rw [e] at z1
        exact z1
      | err er env2 q2 =>
        rw [e] at z1
        exact z1
      | bad =>
        rw [e] at z1
        exact z1
theorem sm_while (fuel : Env → Pen → Nat) {c : Expr} {t : TM} (hp : PassesOwn (model X.prog X.w) X.A X.env X.xe) (hc : PT X c (rT C W t)) (hb : PSs X body (rS C W b)) : PS X (.While c body [] pos) (rS C W (mWhile fuel t b)) :=
  (ps_while hp hc hb).of fun _ _ _ h => rd_while h
end

/-! ### the frame's own lists written -/
section
variable {C : Ctx} {G0 H0 G H : Hp} {σ : St} {env : Env} {p : Pen}
theorem tabs_upd {l : Addr} {vs ys : List V} (t : Tb C H) (h : H l = some (.lst vs)) : Tb C (upd H l (.lst ys)) := by
  have k : ∀ b o, H b = some o → (∀ vs, o ≠ .lst vs) → upd H l (.lst ys) b = some o := fun b o e n => by
    have nb : b ≠ l := fun z => by
      rw [z, h] at e
      cases e
      exact n _ rfl
    rw [upd_ne nb]
    exact e
  refine ⟨fun q hq => ?_, t.sm.elim fun o h => h.elim fun u q => ⟨o, u, k _ _ q fun _ z => by cases z⟩, fun f c q Gc h => k _ _ (t.co f c q Gc h) fun _ z => by cases z⟩
  obtain ⟨ps, h1, h2, h3⟩ := t.tabs q hq
  refine ⟨ps, k _ _ h1 (fun _ z => by cases z), h2, fun pos cv hc => ?_⟩
  obtain ⟨c, e1, e2⟩ := h3 pos cv hc
  exact ⟨c, e1, k _ _ e2 fun _ z => by cases z⟩
theorem SOk.updO (S : SOk C G0 H0 G H σ env p) {i : Nat} {ds es : List D} {l : Addr} {ys : List V} (h1 : env[i]? = some (.own ds)) (h2 : σ[i]? = some (some (.ref l))) (r : Reps C G ys es) : SOk C G0 H0 G (upd H l (.lst ys)) σ (env.set i (.own es)) p := by
  obtain ⟨l', vs, e1, e2, e3, e4⟩ := S.l.own h1
  rw [h2] at e1
  cases e1
  have sub : Sub G (upd H l (.lst ys)) := fun a o e => by
    rw [upd_ne (ne_of_none e e3)]
    exact S.l.sub a o e
  have tab := tabs_upd (ys := ys) S.l.tab e2
  have pn : PenAt C G (upd H l (.lst ys)) p := fun a e => by
    obtain ⟨n, q1, q2⟩ := S.l.pen a e
    refine ⟨n, ?_, q2⟩
    rw [upd_ne (ne_of q1 e2 (by intro w; cases w))]
    exact q1
  have hi : i < σ.length := (List.getElem?_eq_some_iff.mp h2).1
  refine ⟨⟨sub, tab, pn, by rw [List.length_set, S.l.len], fun j x s q1 q2 => ?_, fun j k es1 es2 a q1 q2 q3 q4 => ?_, S.l.nt⟩, ⟨sub, S.x.gro, S.x.new, fun a o e n1 n2 => ?_, fun a e => ?_, tab⟩, fun j es1 a q1 q2 => ?_⟩
  · rcases set_at q2 with ⟨z1, z2⟩ | ⟨z1, z2⟩
    · subst z1 z2
      rw [h2] at q1
      cases q1
      exact .own upd_same e3 r
    · have s0 := S.l.slot j x s q1 z2
      cases s0 with
      | un => exact .un _
      | val r => exact .val r
      | @own a vs2 ds2 w1 w2 w3 =>
        refine .own ?_ w2 w3
        have na : a ≠ l := fun z => z1 (S.l.dis j i _ _ a z2 h1 q1 (by rw [z]; exact h2))
        rw [upd_ne na]
        exact w1
  · have k1 : ∃ es, env[j]? = some (.own es) := by
      rcases set_at q1 with ⟨z1, _⟩ | ⟨_, z⟩
      · exact ⟨_, by rw [z1]; exact h1⟩
      · exact ⟨_, z⟩
    have k2 : ∃ es, env[k]? = some (.own es) := by
      rcases set_at q2 with ⟨z1, _⟩ | ⟨_, z⟩
      · exact ⟨_, by rw [z1]; exact h1⟩
      · exact ⟨_, z⟩
    obtain ⟨_, k1⟩ := k1
    obtain ⟨_, k2⟩ := k2
    exact S.l.dis j k _ _ a k1 k2 q3 q4
  · have na : a ≠ l := fun z => by
      rw [z, S.f i ds l h1 h2] at e
      cases e
    rw [upd_ne na]
    exact S.x.kee a o e n1 n2
  · by_cases na : a = l
    · rw [na, upd_same] at e
      cases e
    · rw [upd_ne na] at e
      exact S.x.fre a e
  · rcases set_at q1 with ⟨z1, _⟩ | ⟨_, z⟩
    · subst z1
      rw [h2] at q2
      cases q2
      exact S.f _ ds _ h1 h2
    · exact S.f j es1 a z q2
end
def mApp (i : Nat) (m : EM) : SM := fun env p => match env[i]? with
  | some (.own ds) => (m env p).res env fun d q => if ds.length < sizeLine then .next (env.set i (.own (ds ++ [d]))) q else .bad
  | _ => .bad
def mExtS (i : Nat) (m : EM) : SM := fun env p => match env[i]? with
  | some (.own ds) => (m env p).res env fun d q => match d.items with
    | some es => if ds.length + es.length ≤ sizeLine then .next (env.set i (.own (ds ++ es))) q else .bad
    | none => .bad
  | _ => .bad
/-- the place a pop takes -/
def popAt (es : List D) (d : D) : Option (Nat × D) := match d with
  | .int k => if -(2 ^ 63) ≤ k ∧ k < 2 ^ 63 then (match seqIndex? k es.length with
    | some n => (es[n]?).map fun z => (n, z)
    | none => none) else none
  | _ => none
/-- x.append(y.pop(e)) -/
def mAppPop (i j : Nat) (m : EM) : SM := fun env p => match env[i]?, env[j]? with
  | some (.own ds), some (.own es) => (m env p).res env fun d q => match popAt es d with
    | some (n, z) => if i ≠ j ∧ ds.length < sizeLine then .next ((env.set j (.own (es.eraseIdx n))).set i (.own (ds ++ [z]))) q else .bad
    | none => .bad
  | _, _ => .bad
/-- name = y.pop(e) -/
def mSetPop (i j : Nat) (m : EM) : SM := fun env p => match env[j]? with
  | some (.own es) => (m env p).res env fun d q => match popAt es d with
    | some (n, z) => .next ((env.set j (.own (es.eraseIdx n))).set i (.val z)) q
    | none => .bad
  | _ => .bad
/-- name = y.pop() -/
def mSetPop0 (i j : Nat) : SM := fun env p => match env[j]? with
  | some (.own es) => match es[es.length - 1]? with
    | some z => .next ((env.set j (.own es.dropLast)).set i (.val z)) p
    | none => .bad
  | _ => .bad
/-- x[a] = e: the value first -/
def mSetIx (i : Nat) (ma m : EM) : SM := fun env p => (m env p).res env fun d q => match env[i]? with
  | some (.own ds) => (ma env q).res env fun k q2 => match k with
    | .int n => match ixN ds.length n with
      | some j => .next (env.set i (.own (ds.set j d))) q2
      | none => .bad
    | _ => .bad
  | _ => .bad
section
variable {X : Cx} {C : Ctx} {W : WX} {pos apos cpos : Pos} {e e2 : Expr} {m ma : EM} {x y : Str}
/-- the name of a list of the frame's own -/
theorem pv_own (i : Nat) {pos : Pos} (hN : X.N[i]? = some x := by rfl) (hv : Vis X.env.scope x := by first | exact Or.inl rfl | exact Or.inr (Or.inl rfl) | exact Or.inr (Or.inr rfl)) (hd : (x == ("__debug__" : Str)) = false := by decide)
    (hcd : (x == ("__classdict__" : Str)) = false := by decide) : PE X (.Name x pos) (tVar i) := pe_var hN hv hd hcd
theorem tyV_list {K : PySem.W.Frag} {l : Addr} {vs : List V} {H : Hp} (h : H l = some (.lst vs)) : tyV K "list" (.ref l) H := .inl ⟨rfl, _, SqL.of h⟩
theorem Ext.stayL {G H G' H' : Hp} (x : Ext C G H G' H') {q : Pen} (y : PenAt C G H q) {l : Addr} {vs : List V} (h : H l = some (.lst vs)) : H' l = some (.lst vs) := x.kee _ _ h (fun e => by
  obtain ⟨_, h1, _⟩ := y l e
  rw [h] at h1
  cases h1) fun _ z => by cases z
/-- the slot's list through a step -/
theorem SOk.ownAt {G0 H0 G H : Hp} {σ : St} {env : Env} {p : Pen} (S : SOk C G0 H0 G H σ env p) {i : Nat} {ds : List D} (h : env[i]? = some (.own ds)) : ∃ l vs, σ[i]? = some (some (.ref l)) ∧ H l = some (.lst vs) ∧ Reps C G vs ds := by
  obtain ⟨l, vs, h1, h2, _, h4⟩ := S.l.own h
  exact ⟨l, vs, h1, h2, h4⟩
theorem sm_app (i : Nat) {p1 : Pos} (h : PE X e (rE C W m)) (hN : X.N[i]? = some x := by rfl) (hv : Vis X.env.scope x := by first | exact Or.inl rfl | exact Or.inr (Or.inl rfl) | exact Or.inr (Or.inr rfl)) (hd : (x == ("__debug__" : Str)) = false := by decide)
    (hcd : (x == ("__classdict__" : Str)) = false := by decide) (hbase : attributeBase (.Name x p1) "append" X.env (eval (.Name x p1) X.env) = eval (.Name x p1) X.env := by rfl)
    (hfew : ((backTo cpos (starEach [e] X.env)).all (fun x => !x.1) && (backToKw cpos (keywordEach [] X.env)).all (fun x => x.1.isSome) && decide ([e].length + ([] : List Keyword).length + (if ([] : List Keyword).isEmpty then 0 else 1) < 30)) = true := by rfl)
    (hline : (apos.endLine == cpos.line) = true := by rfl) (hs : starEach [e] X.env = (false, eval e X.env) :: starEach [] X.env := by rfl) (hplain : (backTo cpos (starEach [] X.env)).any (·.1) = false := by rfl)
    (hsw : swapsWith (.Call (.Attribute (.Name x p1) "append" apos) [e] [] cpos) none pos.line X.env = pure false := by rfl) :
    PS X (.Expr (.Call (.Attribute (.Name x p1) "append" apos) [e] [] cpos) pos) (rS C W (mApp i m)) :=
  (ps_expr (pe_bm PySem.F.plainAttrs_list PySem.F.slot_list_append PySem.F.type_list_append mt_append (pe_var hN hv hd hcd) (pa_cons h pa_nil hs) hbase hfew hline hs hplain) hsw).of fun D σ H ⟨G0, H0, G, env, p, S, o⟩ => by
    unfold mApp at o
    split at o
    · rename_i ds hi
      obtain ⟨l, vs, h1, h2, h3⟩ := S.ownAt hi
      refine ⟨_, h1, tyV_list h2, G, env, p, S.l, (o.out S).imp (fun d q z v G1 H1 x1 y1 r1 => ?_) fun _ _ z => z⟩
      split at z
      · rename_i hz
        refine ⟨l, vs, v, rfl, rfl, x1.stayL S.l.pen h2, by rw [h3.length]; exact hz, ?_⟩
        exact z σ G1 _ ((S.step x1 y1).updO hi h1 ((h3.mono x1.gro).append (Reps.one r1))) x1.gro
      · exact z.elim
    · exact o.elim
/-- a tuple handed to extend -/
theorem list_extend_tup (l : Addr) (xs : Array Value) (n : Nat) (b : Addr) (ys : Array Value) (k : Nat) (dd : Option Addr) (sl : Array (Option Value)) (c0 : ¬(!xs.isEmpty && Builtin.List.listTooLong (xs.size + ys.size)) = true) (c1 : xs.size ≤ sizeLine) (c2 : xs.size + ys.size ≤ sizeLine + 1) :
    Meets (Builtin.«list.extend» ⟨[.ref l, .ref b], []⟩) (fun _ R s => s.heap.get? l = some { cls := .type "list", dict := none, data := .seq xs n, slots := #[] } ∧ (s.heap.get? b = some { cls := .type "tuple", dict := dd, data := .seq ys k, slots := sl } ∧ R (.ok (.ret Value.none)) { s with heap := s.heap.update l (Obj.mapSeq fun z => z ++ ys), toks := s.toks })) :=
  Meets.of_wp fun P w A R s h => by
    obtain ⟨hp, gs, dr, tk, sy⟩ := s
    obtain ⟨k1, k2, k3⟩ := h
    have u1 := AutoSeq1.idx_int
    have u2 := AutoSeq1.sub_tuple_tuple
    have u3 := AutoSeq1.sub_list_list
    have u4 := AutoSeq1.sub_tuple_list
    have u5 := AutoSeq1.sub_list_tuple
    have c3 : (xs ++ ys).size ≤ sizeLine + 1 := (Array.size_append ..).symm ▸ c2
    wp_walk using (wpAny_updateSeq k1 rfl (hz := c1) (_hz' := c3)), AutoSeq1.wpAny_loadPart' k1, AutoSeq1.wpAny_loadPart' k2
    exact ⟨_, rfl, k3⟩
def rExtT (K : PySem.W.Frag) : V → List V → Hp → VK → Prop := fun x vs H Q => ∃ l b xs zs, x = .ref l ∧ vs = [.ref b] ∧ H l = some (.lst xs) ∧ SqT K H b zs ∧ xs.length + zs.length ≤ sizeLine ∧ Q .non (upd H l (.lst (xs ++ zs)))
theorem mt_extT : MtM X "list.extend" (rExtT X.K) := by
  intro pins s σ H x vs v us Q I rx rv h
  obtain ⟨l, b, xs, zs, rfl, rfl, hH, hB, hz, q⟩ := h
  cases rx
  obtain ⟨u, rfl, ru⟩ := rv.one
  cases ru
  obtain ⟨z, its, n, r, hl, e⟩ := I.lstM hH
  obtain ⟨its2, r2, ⟨ob, e2, c2, n2, d2⟩, z2⟩ := I.tuple hB
  have hl2 := r2.length
  have hsz : its.toArray.size + its2.toArray.size ≤ sizeLine := by rw [List.size_toArray, List.size_toArray]; omega
  have hlong : ¬ (!its.toArray.isEmpty && Builtin.List.listTooLong (its.toArray.size + its2.toArray.size)) = true := by
    rw [notLongL hsz, Bool.and_false]
    exact Bool.false_ne_true
  obtain ⟨oc, od, oda, osl⟩ := ob
  cases c2
  cases d2
  refine call_meets F.slot_list_extend ⟨_, e, rfl⟩ F.entry_list_extend (F.args_list_extend_2 _ _)
    (list_extend_tup l its.toArray n b its2.toArray n2 od osl hlong (by rw [List.size_toArray]; omega) (by omega)) ⟨e, e2, ?_⟩
  refine ⟨.non, _, I.lset (its' := its ++ its2) hH e (by simp) (r.append r2) ?_, rfl, q⟩
  rw [List.length_append]
  omega
theorem mt_extAny : MtM X "list.extend" (fun x vs H Q => rExtend x vs H Q ∨ rExtT X.K x vs H Q) := by
  intro pins s σ H x vs v us Q I rx rv h
  rcases h with h | h
  · exact mt_extend pins s σ H x vs v us Q I rx rv h
  · exact mt_extT pins s σ H x vs v us Q I rx rv h
theorem sm_ext (i : Nat) {p1 : Pos} (h : PE X e (rB C W m)) (hN : X.N[i]? = some x := by rfl) (hv : Vis X.env.scope x := by first | exact Or.inl rfl | exact Or.inr (Or.inl rfl) | exact Or.inr (Or.inr rfl)) (hd : (x == ("__debug__" : Str)) = false := by decide)
    (hcd : (x == ("__classdict__" : Str)) = false := by decide) (hbase : attributeBase (.Name x p1) "extend" X.env (eval (.Name x p1) X.env) = eval (.Name x p1) X.env := by rfl)
    (hfew : ((backTo cpos (starEach [e] X.env)).all (fun x => !x.1) && (backToKw cpos (keywordEach [] X.env)).all (fun x => x.1.isSome) && decide ([e].length + ([] : List Keyword).length + (if ([] : List Keyword).isEmpty then 0 else 1) < 30)) = true := by rfl)
    (hline : (apos.endLine == cpos.line) = true := by rfl) (hs : starEach [e] X.env = (false, eval e X.env) :: starEach [] X.env := by rfl) (hplain : (backTo cpos (starEach [] X.env)).any (·.1) = false := by rfl)
    (hsw : swapsWith (.Call (.Attribute (.Name x p1) "extend" apos) [e] [] cpos) none pos.line X.env = pure false := by rfl) :
    PS X (.Expr (.Call (.Attribute (.Name x p1) "extend" apos) [e] [] cpos) pos) (rS C W (mExtS i m)) :=
  (ps_expr (pe_bm PySem.F.plainAttrs_list PySem.F.slot_list_extend PySem.F.type_list_extend mt_extAny (pe_var hN hv hd hcd) (pa_cons h pa_nil hs) hbase hfew hline hs hplain) hsw).of fun D σ H ⟨G0, H0, G, env, p, S, o⟩ => by
    unfold mExtS at o
    split at o
    · rename_i ds hi
      obtain ⟨l, vs, h1, h2, h3⟩ := S.ownAt hi
      refine ⟨_, h1, tyV_list h2, G, env, p, S.l, (o.out S).imp (fun d q z v G1 H1 x1 y1 r1 => ?_) fun _ _ z => z⟩
      split at z
      · rename_i es hes
        split at z
        · rename_i hz
          have S1 := S.step x1 y1
          have fin : ∀ ws, Reps C G1 ws es → D.nx σ (upd H1 l (.lst (vs ++ ws))) := fun ws rw' => z σ G1 _ (S1.updO hi h1 ((h3.mono x1.gro).append rw')) x1.gro
          rcases Pu.D.items_or hes with e1 | e1
          · subst e1
            obtain ⟨b, ws, rfl, hH, rs⟩ := r1.lst S1.l
            exact .inl ⟨l, b, vs, ws, rfl, rfl, x1.stayL S.l.pen h2, hH, by rw [h3.length, rs.length]; exact hz, fin ws rs⟩
          · subst e1
            obtain ⟨b, ws, rfl, hG, rs⟩ := r1.tup
            exact .inr ⟨l, b, vs, ws, rfl, rfl, x1.stayL S.l.pen h2, SqT.of (S1.l.sub _ _ hG), by rw [h3.length, rs.length]; exact hz, fin ws rs⟩
        · exact z.elim
      · exact z.elim
    · exact o.elim
end
end Pu
end

section
set_option maxHeartbeats 2000000
namespace Pu
open PySem PySem.Spec PyProof.Rows L2

section
variable {X : Cx} {C : Ctx} {W : WX} {pos apos cpos : Pos} {e e2 : Expr} {m ma : EM} {x y : Str}
theorem Reps.popAt {G : Hp} {vs : List V} {es : List D} {d z : D} {n : Nat} (r : Reps C G vs es) (h : popAt es d = some (n, z)) : ∃ k u, d = .int k ∧ -(2 ^ 63) ≤ k ∧ k < 2 ^ 63 ∧ seqIndex? k vs.length = some n ∧ vs[n]? = some u ∧ Rep C G u z := by
  unfold Pu.popAt at h
  split at h
  · rename_i k
    split at h
    · rename_i hk
      rw [← r.length] at h
      split at h
      · rename_i n' hn
        cases ez : es[n']? with
        | none =>
          rw [ez] at h
          cases h
        | some z' =>
          rw [ez] at h
          cases h
          obtain ⟨u, h1, h2⟩ := r.getR ez
          exact ⟨k, u, rfl, hk.1, hk.2, hn, h1, h2⟩
      · cases h
    · cases h
  · cases h
theorem env_ne {env : Env} {i j : Nat} {s : Slot} (h : i ≠ j) {t : Slot} (e : env[i]? = some t) : (env.set j s)[i]? = some t := by
  rw [List.getElem?_set_ne (fun z => h z.symm)]
  exact e
/-- x.append(y.pop(e)) -/
theorem sm_appPop (i j : Nat) {p1 p2 ap2 cp2 : Pos} (h : PE X e (rB C W m)) (hN : X.N[i]? = some x := by rfl) (hv : Vis X.env.scope x := by first | exact Or.inl rfl | exact Or.inr (Or.inl rfl) | exact Or.inr (Or.inr rfl)) (hd : (x == ("__debug__" : Str)) = false := by decide)
    (hcd : (x == ("__classdict__" : Str)) = false := by decide) (hN2 : X.N[j]? = some y := by rfl) (hv2 : Vis X.env.scope y := by first | exact Or.inl rfl | exact Or.inr (Or.inl rfl) | exact Or.inr (Or.inr rfl)) (hd2 : (y == ("__debug__" : Str)) = false := by decide)
    (hcd2 : (y == ("__classdict__" : Str)) = false := by decide)
    (hbase2 : attributeBase (.Name y p2) "pop" X.env (eval (.Name y p2) X.env) = eval (.Name y p2) X.env := by rfl)
    (hfew2 : ((backTo cp2 (starEach [e] X.env)).all (fun x => !x.1) && (backToKw cp2 (keywordEach [] X.env)).all (fun x => x.1.isSome) && decide ([e].length + ([] : List Keyword).length + (if ([] : List Keyword).isEmpty then 0 else 1) < 30)) = true := by rfl)
    (hline2 : (ap2.endLine == cp2.line) = true := by rfl) (hs2 : starEach [e] X.env = (false, eval e X.env) :: starEach [] X.env := by rfl) (hplain2 : (backTo cp2 (starEach [] X.env)).any (·.1) = false := by rfl)
    (hbase : attributeBase (.Name x p1) "append" X.env (eval (.Name x p1) X.env) = eval (.Name x p1) X.env := by rfl)
    (hfew : ((backTo cpos (starEach [.Call (.Attribute (.Name y p2) "pop" ap2) [e] [] cp2] X.env)).all (fun x => !x.1) && (backToKw cpos (keywordEach [] X.env)).all (fun x => x.1.isSome) && decide ([Expr.Call (.Attribute (.Name y p2) "pop" ap2) [e] [] cp2].length + ([] : List Keyword).length + (if ([] : List Keyword).isEmpty then 0 else 1) < 30)) = true := by rfl)
    (hline : (apos.endLine == cpos.line) = true := by rfl) (hs : starEach [.Call (.Attribute (.Name y p2) "pop" ap2) [e] [] cp2] X.env = (false, eval (.Call (.Attribute (.Name y p2) "pop" ap2) [e] [] cp2) X.env) :: starEach [] X.env := by rfl) (hplain : (backTo cpos (starEach [] X.env)).any (·.1) = false := by rfl)
    (hsw : swapsWith (.Call (.Attribute (.Name x p1) "append" apos) [.Call (.Attribute (.Name y p2) "pop" ap2) [e] [] cp2] [] cpos) none pos.line X.env = pure false := by rfl) :
    PS X (.Expr (.Call (.Attribute (.Name x p1) "append" apos) [.Call (.Attribute (.Name y p2) "pop" ap2) [e] [] cp2] [] cpos) pos) (rS C W (mAppPop i j m)) :=
  (ps_expr (pe_bm PySem.F.plainAttrs_list PySem.F.slot_list_append PySem.F.type_list_append mt_append (pe_var hN hv hd hcd) (pa_cons (pe_bm PySem.F.plainAttrs_list PySem.F.slot_list_pop PySem.F.type_list_pop mt_popAt (pe_var hN2 hv2 hd2 hcd2) (pa_cons h pa_nil hs2) hbase2 hfew2 hline2 hs2 hplain2) pa_nil hs) hbase hfew hline hs hplain) hsw).of fun D σ H ⟨G0, H0, G, env, p, S, o⟩ => by
    unfold mAppPop at o
    split at o
    · rename_i ds es hi hj
      obtain ⟨l, vs, h1, h2, h3⟩ := S.ownAt hi
      obtain ⟨l2, ws, k1, k2, k3⟩ := S.ownAt hj
      refine ⟨_, h1, tyV_list h2, _, k1, tyV_list k2, G, env, p, S.l, (o.out S).imp (fun d q z v G1 H1 x1 y1 r1 => ?_) fun _ _ z => z⟩
      split at z
      · rename_i n u hp
        split at z
        · rename_i hc
          obtain ⟨k, w, rfl, q1, q2, q3, q4, q5⟩ := (k3.mono x1.gro).popAt hp
          have S1 := S.step x1 y1
          have S2 := S1.updO hj k1 (Reps.eraseIdx n (k3.mono x1.gro))
          have nl : l ≠ l2 := fun e => hc.1 (S.l.dis i j _ _ l hi hj h1 (by rw [e]; exact k1))
          refine ⟨l2, ws, k, n, w, rfl, by rw [r1.int], x1.stayL S.l.pen k2, q1, q2, q3, q4, l, vs, w, rfl, rfl, ?_, by rw [h3.length]; exact hc.2, ?_⟩
          · rw [upd_ne nl]
            exact x1.stayL S.l.pen h2
          · exact z σ G1 _ (S2.updO (env_ne hc.1 hi) h1 ((h3.mono x1.gro).append (Reps.one q5))) x1.gro
        · exact z.elim
      · exact z.elim
    · exact o.elim
/-- name = y.pop(e) -/
theorem sm_setPop (i j : Nat) {p1 p2 ap2 cp2 : Pos} (hNd : X.N.Nodup) (h : PE X e (rB C W m)) (hN : X.N[i]? = some x := by rfl) (hx : Loc X.env.scope x := by first | exact Or.inl rfl | exact Or.inr rfl) (hf : X.fn x = true ∨ X.env.scope.names.lookup x = some .local := by first | exact .inl rfl | exact .inr rfl)
    (hN2 : X.N[j]? = some y := by rfl) (hv2 : Vis X.env.scope y := by first | exact Or.inl rfl | exact Or.inr (Or.inl rfl) | exact Or.inr (Or.inr rfl)) (hd2 : (y == ("__debug__" : Str)) = false := by decide)
    (hcd2 : (y == ("__classdict__" : Str)) = false := by decide)
    (hbase2 : attributeBase (.Name y p2) "pop" X.env (eval (.Name y p2) X.env) = eval (.Name y p2) X.env := by rfl)
    (hfew2 : ((backTo cp2 (starEach [e] X.env)).all (fun x => !x.1) && (backToKw cp2 (keywordEach [] X.env)).all (fun x => x.1.isSome) && decide ([e].length + ([] : List Keyword).length + (if ([] : List Keyword).isEmpty then 0 else 1) < 30)) = true := by rfl)
    (hline2 : (ap2.endLine == cp2.line) = true := by rfl) (hs2 : starEach [e] X.env = (false, eval e X.env) :: starEach [] X.env := by rfl) (hplain2 : (backTo cp2 (starEach [] X.env)).any (·.1) = false := by rfl)
    (hsw : swapsWith (.Call (.Attribute (.Name y p2) "pop" ap2) [e] [] cp2) (some (.Name x p1)) pos.line X.env = pure false := by rfl) :
    PS X (.Assign [.Name x p1] (.Call (.Attribute (.Name y p2) "pop" ap2) [e] [] cp2) pos) (rS C W (mSetPop i j m)) :=
  (ps_set hNd hN hx (pe_bm PySem.F.plainAttrs_list PySem.F.slot_list_pop PySem.F.type_list_pop mt_popAt (pe_var hN2 hv2 hd2 hcd2) (pa_cons h pa_nil hs2) hbase2 hfew2 hline2 hs2 hplain2) hsw hf).of fun D σ H ⟨G0, H0, G, env, p, S, o⟩ => by
    unfold mSetPop at o
    split at o
    · rename_i es hj
      obtain ⟨l2, ws, k1, k2, k3⟩ := S.ownAt hj
      refine ⟨_, k1, tyV_list k2, G, env, p, S.l, (o.out S).imp (fun d q z v G1 H1 x1 y1 r1 => ?_) fun _ _ z => z⟩
      split at z
      · rename_i n u hp
        obtain ⟨k, w, rfl, q1, q2, q3, q4, q5⟩ := (k3.mono x1.gro).popAt hp
        have S2 := (S.step x1 y1).updO hj k1 (Reps.eraseIdx n (k3.mono x1.gro))
        exact ⟨l2, ws, k, n, w, rfl, by rw [r1.int], x1.stayL S.l.pen k2, q1, q2, q3, q4, z _ G1 _ (S2.setV i q5) x1.gro⟩
      · exact z.elim
    · exact o.elim
/-- name = y.pop() -/
theorem sm_setPop0 (i j : Nat) {p1 p2 ap2 cp2 : Pos} (hNd : X.N.Nodup) (hN : X.N[i]? = some x := by rfl) (hx : Loc X.env.scope x := by first | exact Or.inl rfl | exact Or.inr rfl) (hf : X.fn x = true ∨ X.env.scope.names.lookup x = some .local := by first | exact .inl rfl | exact .inr rfl)
    (hN2 : X.N[j]? = some y := by rfl) (hv2 : Vis X.env.scope y := by first | exact Or.inl rfl | exact Or.inr (Or.inl rfl) | exact Or.inr (Or.inr rfl)) (hd2 : (y == ("__debug__" : Str)) = false := by decide)
    (hcd2 : (y == ("__classdict__" : Str)) = false := by decide)
    (hbase2 : attributeBase (.Name y p2) "pop" X.env (eval (.Name y p2) X.env) = eval (.Name y p2) X.env := by rfl) (hline2 : (ap2.endLine == cp2.line) = true := by rfl)
    (hsw : swapsWith (.Call (.Attribute (.Name y p2) "pop" ap2) [] [] cp2) (some (.Name x p1)) pos.line X.env = pure false := by rfl) :
    PS X (.Assign [.Name x p1] (.Call (.Attribute (.Name y p2) "pop" ap2) [] [] cp2) pos) (rS C W (mSetPop0 i j)) :=
  (ps_set hNd hN hx (pe_bm0 PySem.F.plainAttrs_list PySem.F.slot_list_pop PySem.F.type_list_pop mt_pop (pe_var hN2 hv2 hd2 hcd2) hbase2 hline2) hsw hf).of fun D σ H ⟨G0, H0, G, env, p, S, o⟩ => by
    unfold mSetPop0 at o
    split at o
    · rename_i es hj
      obtain ⟨l2, ws, k1, k2, k3⟩ := S.ownAt hj
      split at o
      · rename_i z hz
        obtain ⟨u, q4, q5⟩ := k3.getR hz
        have S2 := S.updO hj k1 k3.dropLast
        rw [← k3.length] at q4
        exact ⟨_, k1, tyV_list k2, l2, ws, u, rfl, rfl, k2, q4, o _ G _ (S2.setV i q5) (Sub.refl _)⟩
      · exact o.elim
    · exact o.elim
/-- x[a] = e -/
theorem sm_setIx (i : Nat) {p1 sp : Pos} {a : Expr} (h : PE X e (rE C W m)) (ha : PE X a (rB C W ma)) (hN : X.N[i]? = some x := by rfl) (hv : Vis X.env.scope x := by first | exact Or.inl rfl | exact Or.inr (Or.inl rfl) | exact Or.inr (Or.inr rfl)) (hd : (x == ("__debug__" : Str)) = false := by decide)
    (hcd : (x == ("__classdict__" : Str)) = false := by decide)
    (hg : ∀ v, assign (.Subscript (.Name x p1) a sp) X.env v = (do
      let ov ← holding [v] (eval (.Name x p1) X.env)
      let iv ← holding [v, ov] (eval a X.env)
      standAt sp
      holding [v, ov, iv] (setItem ov iv v)
      release [v, ov, iv] []) := by intro _; rfl) (hs : swapsWithSole [.Subscript (.Name x p1) a sp] e pos.line X.env = pure false := by rfl) (hw : swappedStores [.Subscript (.Name x p1) a sp] e X.env = pure none := by rfl)
    (h1 : (assignEach [.Subscript (.Name x p1) a sp] X.env).map (·.2) = [assign (.Subscript (.Name x p1) a sp) X.env] := by rfl) :
    PS X (.Assign [.Subscript (.Name x p1) a sp] e pos) (rS C W (mSetIx i ma m)) :=
  (ps_asg h (pg_sub (pe_var hN hv hd hcd) ha set_list hg) hs hw h1).of fun D σ H ⟨G0, H0, G, env, p, S, o⟩ => by
    refine ⟨G, env, p, S.l, (o.out S).imp (fun d q z v G1 H1 x1 y1 r1 => ?_) fun _ _ z => z⟩
    have S1 := S.step x1 y1
    split at z
    · rename_i ds hi
      obtain ⟨l, vs, k1, k2, k3⟩ := S1.ownAt hi
      have z1 := z.gro x1.gro
      refine ⟨_, k1, G1, env, q, S1.l, (z1.out S1).imp (fun k q2 z2 u G2 H2 x2 y2 r2 => ?_) fun _ _ z => z⟩
      have S2 := S1.step x2 y2
      split at z2
      · rename_i n
        split at z2
        · rename_i j hj
          refine ⟨l, vs, n, j, rfl, r2.int, x2.stayL S1.l.pen k2, by rw [k3.length]; exact hj, ?_⟩
          exact z2 σ G2 _ (S2.updO hi k1 ((k3.mono x2.gro).set j (r1.mono x2.gro))) x2.gro
        · exact z2.elim
      · exact z2.elim
    · exact z.elim
end
end Pu
end

section
set_option maxHeartbeats 2000000
namespace Pu
open PySem PySem.Spec PyProof.Rows L2

section
variable {X : Cx}
/-- xs[i] by values -/
theorem get_list : PGet X (rIxL X.K) := by
  intro pins s σ H o i ov iv Q I ro ri h
  obtain ⟨p, xs, k, z, rfl, rfl, hq, he, q⟩ := h
  cases ro
  obtain ⟨t, rfl⟩ := ri
  obtain ⟨us, r, pl, hz⟩ := I.list hq
  obtain ⟨j, g1, g2, g3, g4, g5⟩ := atI_get he
  obtain ⟨w, ew, rw'⟩ := r.get g2
  have hl := r.length
  have hn := line63
  have fin : EP X pins σ Q w s := ⟨z, H, I, rw', q⟩
  by_cases h0 : 0 ≤ k
  · have hj : k.toNat = j := by
      rw [seqIndex_of h0 g5] at g1
      exact Option.some.inj g1
    exact wpAny_getItem_list pl.isList h0 (by omega) (by rw [hj]; simpa using ew) fin
  · have hj : (k + (us.toArray.size : Int)).toNat = j := by
      rw [seqIndex_neg (by omega) g4] at g1
      rw [List.size_toArray, ← hl]
      exact Option.some.inj g1
    exact wpAny_getItem_list_neg pl.isList (by omega) (by rw [List.size_toArray] <;> omega) (by omega) (by rw [hj]; simpa using ew) fin
end
/-- x[a] op= e, ints -/
def mAugIx (f : Int → Int → Int) (i : Nat) (ma m : EM) : SM := fun env p => match env[i]? with
  | some (.own ds) => (ma env p).res env fun k q => match k with
    | .int n => match ixN ds.length n, L2.atI ds n with
      | some j, some (.int old) => (m env q).res env fun d q2 => match d with
        | .int v => .next (env.set i (.own (ds.set j (.int (f old v))))) q2
        | _ => .bad
      | _, _ => .bad
    | _ => .bad
  | _ => .bad
/-- name op= e, ints -/
def mAug (f : Int → Int → Int) (i : Nat) (m : EM) : SM := fun env p => match env[i]? with
  | some (.val (.int a)) => (m env p).res env fun d q => match d with
    | .int b => .next (env.set i (.val (.int (f a b)))) q
    | _ => .bad
  | _ => .bad
section
variable {X : Cx} {C : Ctx} {W : WX} {pos apos cpos : Pos} {e e2 : Expr} {m ma : EM} {x y : Str}
theorem sm_augIx (i : Nat) {f : Int → Int → Int} {op : Operator} {p1 sp : Pos} {a : Expr} (hp : PIp X op (ipI f)) (ha : PE X a (rB C W ma)) (h : PE X e (rE C W m)) (hN : X.N[i]? = some x := by rfl) (hv : Vis X.env.scope x := by first | exact Or.inl rfl | exact Or.inr (Or.inl rfl) | exact Or.inr (Or.inr rfl)) (hd : (x == ("__debug__" : Str)) = false := by decide)
    (hcd : (x == ("__classdict__" : Str)) = false := by decide)
    (hst : ∀ ov iv new, augStore a ov iv new = (do holding [new, ov, iv] (setItem ov iv new); release [new, ov, iv] []; pure .next) := by intros; rfl) :
    PS X (.AugAssign (.Subscript (.Name x p1) a sp) op e pos) (rS C W (mAugIx f i ma m)) :=
  (ps_augS (pe_var hN hv hd hcd) ha get_list h hp set_list hst).of fun D σ H ⟨G0, H0, G, env, p, S, o⟩ => by
    unfold mAugIx at o
    split at o
    · rename_i ds hi
      obtain ⟨l, vs, k1, k2, k3⟩ := S.ownAt hi
      refine ⟨_, k1, G, env, p, S.l, (o.out S).imp (fun k q z u G1 H1 x1 y1 r1 => ?_) fun _ _ z => z⟩
      have S1 := S.step x1 y1
      have k21 := x1.stayL S.l.pen k2
      have k31 := k3.mono x1.gro
      split at z
      · rename_i n
        split at z
        · rename_i j old hj ho
          obtain ⟨w, a1, a2⟩ := k31.atI ho
          cases a2
          refine ⟨l, vs, n, _, rfl, r1.int, SqL.of k21, a1, G1, env, q, S1.l, ((z.gro x1.gro).out S1).imp (fun d q2 z2 u2 G2 H2 x2 y2 r2 => ?_) fun _ _ z => z⟩
          have S2 := S1.step x2 y2
          split at z2
          · rename_i v
            cases r2
            exact ⟨old, v, rfl, rfl, l, vs, n, j, rfl, r1.int, x2.stayL S1.l.pen k21, by rw [k31.length]; exact hj, z2 σ G2 _ (S2.updO hi k1 ((k31.mono x2.gro).set j (.int _))) x2.gro⟩
          · exact z2.elim
        · exact z.elim
      · exact z.elim
    · exact o.elim
theorem sm_aug (i : Nat) {f : Int → Int → Int} {op : Operator} {p1 : Pos} (hNd : X.N.Nodup) (hp : PIp X op (ipI f)) (h : PE X e (rE C W m)) (hN : X.N[i]? = some x := by rfl) (hx : Loc X.env.scope x := by first | exact Or.inl rfl | exact Or.inr rfl) (hf : X.fn x = true ∨ X.env.scope.names.lookup x = some .local := by first | exact .inl rfl | exact .inr rfl) :
    PS X (.AugAssign (.Name x p1) op e pos) (rS C W (mAug f i m)) :=
  (ps_aug hNd hN hx h hp hf).of fun D σ H ⟨G0, H0, G, env, p, S, o⟩ => by
    unfold mAug at o
    split at o
    · rename_i a hi
      obtain ⟨v, k1, k2⟩ := S.l.val hi
      cases k2
      refine ⟨_, k1, G, env, p, S.l, (o.out S).imp (fun d q z u G1 H1 x1 y1 r1 => ?_) fun _ _ z => z⟩
      split at z
      · rename_i b
        cases r1
        exact ⟨a, b, rfl, rfl, z _ G1 _ ((S.step x1 y1).setV i (.int _)) x1.gro⟩
      · exact z.elim
    · exact o.elim
end

/-! ### a, b = x, y -/
abbrev AS := Env → Pen → Out (List Slot)
inductive SReps (C : Ctx) (G' H' H : Hp) : List V → List Slot → Prop where
  | nil : SReps C G' H' H [] []
  | val {v : V} {d : D} {vs : List V} {ss : List Slot} (r : Rep C G' v d) (hd : d.isFn = false) (t : SReps C G' H' H vs ss) : SReps C G' H' H (v :: vs) (.val d :: ss)
  | own {l : Addr} {ws : List V} {ds : List D} {vs : List V} {ss : List Slot} (h : H l = none) (n : G' l = none) (hh : H' l = some (.lst ws)) (r : Reps C G' ws ds) (f : V.ref l ∉ vs) (t : SReps C G' H' H vs ss) : SReps C G' H' H (.ref l :: vs) (.own ds :: ss)
def rAS (C : Ctx) (W : WX) (m : AS) : TA := fun σ H Q => ∃ G env p, LOk C G H σ env p ∧
  OutP (m env p) (fun ss q => ∀ vs G' H', Ext C G H G' H' → PenAt C G' H' q → SReps C G' H' H vs ss → Q vs H') (ErrP C W G H σ)
def sNil : AS := fun _ p => .ok [] p
def sVal (m : EM) (r : AS) : AS := fun env p => (m env p).bind fun d q => if d.isFn = true then .bad else (r env q).bind fun ss q2 => .ok (.val d :: ss) q2
def sOwn (m : AM) (r : AS) : AS := fun env p => (m env p).bind fun ds q => (r env q).bind fun ss q2 => .ok (.own ds :: ss) q2
section
variable {X : Cx} {C : Ctx} {W : WX} {pos apos cpos : Pos} {e e2 : Expr} {es : List Expr} {m ma : EM} {r : AS} {x y : Str}
theorem SReps.fresh {G H G1 H1 G2 H2 : Hp} (x1 : Ext C G H G1 H1) : ∀ {vs : List V} {ss : List Slot}, SReps C G2 H2 H1 vs ss → SReps C G2 H2 H vs ss
  | _, _, .nil => .nil
  | _, _, .val r hd t => .val r hd (SReps.fresh x1 t)
  | _, _, .own h n hh r f t => .own (x1.fre _ h) n hh r f (SReps.fresh x1 t)
theorem SReps.notIn {H1 G2 H2 : Hp} {l : Addr} {o : List V} (h1 : H1 l = some (.lst o)) (h2 : G2 l = none) (hp : C.pa ≠ some l) : ∀ {vs : List V} {ss : List Slot}, SReps C G2 H2 H1 vs ss → V.ref l ∉ vs
  | _, _, .nil => fun z => by cases z
  | _, _, .val r hd t => fun z => by
    rcases List.mem_cons.mp z with e | z
    · subst e
      cases r with
      | tup h _ =>
        rw [h2] at h
        cases h
      | lst h _ =>
        rw [h2] at h
        cases h
      | dct h _ =>
        rw [h2] at h
        cases h
      | obj _ h _ =>
        rw [h2] at h
        cases h
      | pen h => exact hp h
      | fn h => cases hd
      | clo h s0 => cases hd
      | lam _ _ _ => cases hd
      | exc0 h m => cases hd
      | scr h => cases hd
      | exc1 h m g r => cases hd
    · exact SReps.notIn h1 h2 hp t z
  | _, _, .own h n hh r f t => fun z => by
    rcases List.mem_cons.mp z with e | z
    · cases e
      rw [h1] at h
      cases h
    · exact SReps.notIn h1 h2 hp t z
theorem as_nil : PA X [] (rAS C W sNil) := pa_nil.of fun σ H Q ⟨G, env, p, L, o⟩ => o [] G H (Ext.refl L.sub L.tab) L.pen .nil
theorem as_val (h : PE X e (rE C W m)) (hr : PA X es (rAS C W r)) (hs : starEach (e :: es) X.env = (false, eval e X.env) :: starEach es X.env := by rfl) : PA X (e :: es) (rAS C W (sVal m r)) := (pa_cons h hr hs).of fun σ H Q ⟨G, env, p, L, o⟩ => by
  refine ⟨G, env, p, L, o.bind.imp (fun d q z v G1 H1 x1 y1 r1 => ?_) fun _ _ z => z⟩
  split at z
  · exact z.elim
  · rename_i hd
    exact ⟨G1, env, q, L.step x1 y1, z.bind.imp (fun ds q2 z2 vs G2 H2 x2 y2 r2 => z2 (v :: vs) G2 H2 (x1.trans x2) y2 (.val (r1.mono x2.gro) (by simpa using hd) (r2.fresh x1))) fun _ _ z => z.step x1⟩
theorem as_own {a : AM} (h : PE X e (rF C W a)) (hr : PA X es (rAS C W r)) (hs : starEach (e :: es) X.env = (false, eval e X.env) :: starEach es X.env := by rfl) : PA X (e :: es) (rAS C W (sOwn a r)) := (pa_cons h hr hs).of fun σ H Q ⟨G, env, p, L, o⟩ => by
  refine ⟨G, env, p, L, o.bind.imp (fun ds q z l vs G1 H1 x1 y1 hl hg hh r1 => ?_) fun _ _ z => z⟩
  refine ⟨G1, env, q, L.step x1 y1, z.bind.imp (fun ss q2 z2 ws G2 H2 x2 y2 r2 => ?_) fun _ _ z => z.step x1⟩
  have hg2 : G2 l = none := by
    cases e : G2 l with
    | none => rfl
    | some o =>
      rcases x2.new l o e with w | w | ⟨q, w⟩
      · rw [hg] at w
        cases w
      · rw [hh] at w
        cases w
      · have k := x2.stayL y1 hh
        rw [x2.sub _ _ e, w] at k
        cases k
  refine z2 (.ref l :: ws) G2 H2 (x1.trans x2) y2 (.own hl hg2 (x2.stayL y1 hh) (r1.mono x2.gro) (r2.notIn hh hg2 fun e => ?_) (r2.fresh x1))
  obtain ⟨_, w, _⟩ := y1 l e
  rw [hh] at w
  cases w
/-- a slot stored -/
theorem SOk.setS {G0 H0 G H Ha : Hp} {σ : St} {env : Env} {p : Pen} (S : SOk C G0 H0 G H σ env p) (i : Nat) {v : V} {s : Slot} {vs : List V} {ss : List Slot} (r : SReps C G H Ha (v :: vs) (s :: ss)) (h0 : ∀ a, Ha a = none → H0 a = none) (nf : ∀ (j : Nat) (es : List D) (a : Addr), env[j]? = some (.own es) → σ[j]? = some (some (.ref a)) → V.ref a = v → False) : SOk C G0 H0 G H (σ.set i (some v)) (env.set i s) p := by
  cases r with
  | val r hd t => exact S.setV i r
  | own h n hh r f t => exact S.setO i hh n (h0 _ h) r fun j es e1 e2 => nf j es _ e1 e2 rfl
theorem SReps.tl {G' H' H : Hp} {v : V} {s : Slot} {vs : List V} {ss : List Slot} (r : SReps C G' H' H (v :: vs) (s :: ss)) : SReps C G' H' H vs ss := by
  cases r with
  | val _ _ t => exact t
  | own _ _ _ _ _ t => exact t
/-- the value stored is no own list from before -/
theorem SReps.new {G H0 G1 H1 : Hp} {σ : St} {env : Env} {p q : Pen} {v : V} {s : Slot} {vs : List V} {ss : List Slot} (L : LOk C G H0 σ env p) (L1 : LOk C G1 H1 σ env q) (r : SReps C G1 H1 H0 (v :: vs) (s :: ss)) : ∀ (j : Nat) (es : List D) (a : Addr), env[j]? = some (.own es) → σ[j]? = some (some (.ref a)) → V.ref a = v → False := fun j es a e1 e2 e3 => by
  obtain ⟨b, ws, k1, k2, k3, _⟩ := L1.own e1
  obtain ⟨b2, ws2, j1, j2, j3, _⟩ := L.own e1
  rw [e2] at k1 j1
  cases k1
  cases j1
  subst e3
  cases r with
  | val r hd t =>
    cases r with
    | tup h _ =>
      rw [k3] at h
      cases h
    | lst h _ =>
      rw [k3] at h
      cases h
    | dct h _ =>
      rw [k3] at h
      cases h
    | obj _ h _ =>
      rw [k3] at h
      cases h
    | pen h =>
      obtain ⟨_, w, _⟩ := L1.pen a h
      rw [k2] at w
      cases w
    | fn h => cases hd
    | scr h => cases hd
    | clo h s0 => cases hd
    | lam _ _ _ => cases hd
    | exc0 h m => cases hd
    | exc1 h m g r => cases hd
  | own h n hh r f t =>
    rw [j2] at h
    cases h
def mPar2 (i j : Nat) (m : AS) : SM := fun env p => (m env p).res env fun ss q => match ss with
  | [s, t] => .next ((env.set i s).set j t) q
  | _ => .bad
def mPar3 (i j k : Nat) (m : AS) : SM := fun env p => (m env p).res env fun ss q => match ss with
  | [s, t, u] => .next (((env.set i s).set j t).set k u) q
  | _ => .bad
theorem SReps.len : ∀ {G' H' H : Hp} {vs : List V} {ss : List Slot}, SReps C G' H' H vs ss → vs.length = ss.length
  | _, _, _, _, _, .nil => rfl
  | _, _, _, _, _, .val _ _ t => by rw [List.length_cons, List.length_cons, SReps.len t]
  | _, _, _, _, _, .own _ _ _ _ _ t => by rw [List.length_cons, List.length_cons, SReps.len t]
end
end Pu
end

section
set_option maxHeartbeats 2000000
namespace Pu
open PySem PySem.Spec PyProof.Rows L2

section
variable {X : Cx} {C : Ctx} {W : WX} {pos : Pos} {m : AS} {x y : Str}
/-- no own list of (σ, env) is among the values -/
def NoOwn (σ : St) (env : Env) (vs : List V) : Prop := ∀ (j : Nat) (es : List D) (a : Addr), env[j]? = some (.own es) → σ[j]? = some (some (.ref a)) → V.ref a ∉ vs
theorem SReps.noOwn {G H0 G1 H1 : Hp} {σ : St} {env : Env} {p q : Pen} (L : LOk C G H0 σ env p) (L1 : LOk C G1 H1 σ env q) : ∀ {vs : List V} {ss : List Slot}, SReps C G1 H1 H0 vs ss → NoOwn σ env vs
  | _, _, .nil => fun _ _ _ _ _ z => by cases z
  | _, _, .val r hd t => fun j es a e1 e2 z => by
    rcases List.mem_cons.mp z with e | z
    · exact SReps.new (vs := []) (ss := []) L L1 (.val r hd .nil) j es a e1 e2 e
    · exact SReps.noOwn L L1 t j es a e1 e2 z
  | _, _, .own h n hh r f t => fun j es a e1 e2 z => by
    rcases List.mem_cons.mp z with e | z
    · exact SReps.new (vs := []) (ss := []) L L1 (.own h n hh r (fun z => by cases z) .nil) j es a e1 e2 e
    · exact SReps.noOwn L L1 t j es a e1 e2 z
/-- a slot stored, the rest still to be stored -/
theorem SOk.setR {G0 H0 G H Ha : Hp} {σ : St} {env : Env} {p : Pen} (S : SOk C G0 H0 G H σ env p) (i : Nat) {v : V} {s : Slot} {vs : List V} {ss : List Slot} (r : SReps C G H Ha (v :: vs) (s :: ss)) (h0 : ∀ a, Ha a = none → H0 a = none) (n : NoOwn σ env (v :: vs)) :
    SOk C G0 H0 G H (σ.set i (some v)) (env.set i s) p ∧ NoOwn (σ.set i (some v)) (env.set i s) vs := by
  refine ⟨S.setS i r h0 fun j es a e1 e2 e => n j es a e1 e2 (by rw [e]; exact List.mem_cons_self), fun j es a e1 e2 z => ?_⟩
  rcases set_at e1 with ⟨q1, q2⟩ | ⟨q1, q2⟩
  · rcases set_at e2 with ⟨q3, q4⟩ | ⟨q3, q4⟩
    · subst q2
      cases q4
      cases r with
      | own h n' hh r f t => exact f z
    · exact q3 q1
  · rcases set_at e2 with ⟨q3, q4⟩ | ⟨q3, q4⟩
    · exact q1 q3
    · exact n j es a q2 q4 (List.mem_cons_of_mem _ z)
theorem sm_par2 (i j : Nat) {a b : Expr} {px py pt : Pos} {kt k2 pt2} (hc : X.calm = true) (hN : X.N.Nodup) (ha : PA X [a, b] (rAS C W m)) (hi : X.N[i]? = some x := by rfl) (hj : X.N[j]? = some y := by rfl) (hij : i ≠ j := by decide)
    (hx : X.env.scope.names.lookup x = some .local := by rfl) (hy : X.env.scope.names.lookup y = some .local := by rfl)
    (hw : swappedStores [.Tuple [.Name x px, .Name y py] kt pt] (.Tuple [a, b] k2 pt2) X.env = pure (some [x, y]) := by rfl)
    (hs : swapsWithSole [.Tuple [.Name x px, .Name y py] kt pt] (.Tuple [a, b] k2 pt2) pos.line X.env = pure false := by rfl) :
    PS X (.Assign [.Tuple [.Name x px, .Name y py] kt pt] (.Tuple [a, b] k2 pt2) pos) (rS C W (mPar2 i j m)) := (ps_par hc hN hi hj hij hx hy ha hw hs).of fun D σ H ⟨G0, H0, G, env, p, S, o⟩ => by
  refine ⟨G, env, p, S.l, (o.out S).imp (fun ss q z vs G1 H1 x1 y1 r1 => ?_) fun _ _ z => z⟩
  have S1 := S.step x1 y1
  have nn := r1.noOwn S.l S1.l
  split at z
  · rename_i s t
    obtain ⟨v, w, rfl⟩ : ∃ v w, vs = [v, w] := by
      have e := r1.len
      match vs, e with
      | [v, w], _ => exact ⟨v, w, rfl⟩
    refine ⟨v, w, rfl, ?_⟩
    obtain ⟨S2, n2⟩ := S1.setR i r1 S.x.fre nn
    obtain ⟨S3, _⟩ := S2.setR j r1.tl S.x.fre n2
    exact z _ G1 H1 S3 x1.gro
  · exact z.elim
theorem sm_par3 (i j k : Nat) {w : Str} {a b c : Expr} {px py pz pt : Pos} {kt k2 pt2} (hc : X.calm = true) (hN : X.N.Nodup) (ha : PA X [a, b, c] (rAS C W m)) (hi : X.N[i]? = some x := by rfl) (hj : X.N[j]? = some y := by rfl) (hl : X.N[k]? = some w := by rfl) (hij : i ≠ j := by decide) (hil : i ≠ k := by decide) (hjl : j ≠ k := by decide)
    (hx : X.env.scope.names.lookup x = some .local := by rfl) (hy : X.env.scope.names.lookup y = some .local := by rfl) (hz : X.env.scope.names.lookup w = some .local := by rfl)
    (hw : swappedStores [.Tuple [.Name x px, .Name y py, .Name w pz] kt pt] (.Tuple [a, b, c] k2 pt2) X.env = pure (some [x, y, w]) := by rfl)
    (hs : swapsWithSole [.Tuple [.Name x px, .Name y py, .Name w pz] kt pt] (.Tuple [a, b, c] k2 pt2) pos.line X.env = pure false := by rfl) :
    PS X (.Assign [.Tuple [.Name x px, .Name y py, .Name w pz] kt pt] (.Tuple [a, b, c] k2 pt2) pos) (rS C W (mPar3 i j k m)) := (ps_par3 hc hN hi hj hl hij hil hjl hx hy hz ha hw hs).of fun D σ H ⟨G0, H0, G, env, p, S, o⟩ => by
  refine ⟨G, env, p, S.l, (o.out S).imp (fun ss q z vs G1 H1 x1 y1 r1 => ?_) fun _ _ z => z⟩
  have S1 := S.step x1 y1
  have nn := r1.noOwn S.l S1.l
  split at z
  · rename_i s t u
    obtain ⟨v1, v2, v3, rfl⟩ : ∃ v1 v2 v3, vs = [v1, v2, v3] := by
      have e := r1.len
      match vs, e with
      | [v, w, u], _ => exact ⟨v, w, u, rfl⟩
    refine ⟨v1, v2, v3, rfl, ?_⟩
    obtain ⟨S2, n2⟩ := S1.setR i r1 S.x.fre nn
    obtain ⟨S3, n3⟩ := S2.setR j r1.tl S.x.fre n2
    obtain ⟨S4, _⟩ := S3.setR k r1.tl.tl S.x.fre n3
    exact z _ G1 H1 S4 x1.gro
  · exact z.elim
end

/-! ### a list of the frame's own frozen for good -/
def mFrzS (i : Nat) (m : SM) : SM := fun env p => match env[i]? with
  | some (.own ds) => m (env.set i (.val (.lst ds))) p
  | _ => .bad
theorem SOk.frzS {C : Ctx} {G0 H0 G H : Hp} {σ : St} {env : Env} {p : Pen} (S : SOk C G0 H0 G H σ env p) {i : Nat} {ds : List D} (h : env[i]? = some (.own ds)) : ∃ G1, SOk C G0 H0 G1 H σ (env.set i (.val (.lst ds))) p ∧ Sub G G1 := by
  obtain ⟨l, vs, h1, h2, h3, h4⟩ := S.l.own h
  have s1 : Sub G (upd G l (.lst vs)) := sub_upd h3
  have pl : ∀ a, C.pa = some a → a ≠ l := fun a e z => by
    obtain ⟨_, q, _⟩ := S.l.pen a e
    rw [z, h2] at q
    cases q
  refine ⟨upd G l (.lst vs), ⟨⟨sub_froz S.l.sub h2, S.l.tab, fun a e => ?_, by rw [List.length_set, S.l.len], fun j x s q1 q2 => ?_, fun j k ds es a q1 q2 q3 q4 => ?_, fun p hp => (upd_ne (fun z => by obtain ⟨_, t, _⟩ := S.l.tab.tabs p hp; rw [z, h2] at t; cases t)).trans (S.l.nt p hp)⟩, ⟨sub_froz S.l.sub h2, S.x.gro.trans s1, fun a o e => ?_, S.x.kee, S.x.fre, S.x.tab⟩, fun j es a q1 q2 => ?_⟩, s1⟩
  · obtain ⟨n, q1, q2⟩ := S.l.pen a e
    exact ⟨by rw [upd_ne (pl a e)]; exact n, q1, s1 _ _ q2⟩
  · rcases set_at q2 with ⟨z1, z2⟩ | ⟨z1, z2⟩
    · subst z1 z2
      rw [h1] at q1
      cases q1
      exact .val (.lst upd_same (h4.mono s1))
    · have s0 := S.l.slot j x s q1 z2
      cases s0 with
      | un => exact .un _
      | val r => exact .val (r.mono s1)
      | @own a vs2 ds2 w1 w2 w3 =>
        refine .own w1 ?_ (w3.mono s1)
        have na : a ≠ l := fun z => z1 (S.l.dis j i _ _ a z2 h q1 (by rw [z]; exact h1))
        rw [upd_ne na]
        exact w2
  · rcases set_at q1 with ⟨_, z⟩ | ⟨_, q1⟩
    · cases z
    · rcases set_at q2 with ⟨_, z⟩ | ⟨_, q2⟩
      · cases z
      · exact S.l.dis j k _ _ a q1 q2 q3 q4
  · by_cases ha : a = l
    · subst ha
      exact .inr (.inl (S.f i ds a h h1))
    · rw [upd_ne ha] at e
      exact S.x.new a o e
  · rcases set_at q1 with ⟨_, z⟩ | ⟨_, q1⟩
    · cases z
    · exact S.f j es a q1 q2
theorem ss_frz {X : Cx} {C : Ctx} {W : WX} (i : Nat) {sts : List Stmt} {m : SM} (h : PSs X sts (rS C W m)) : PSs X sts (rS C W (mFrzS i m)) := h.of fun D σ H ⟨G0, H0, G, env, p, S, o⟩ => by
  unfold mFrzS at o
  split at o
  · rename_i ds hi
    obtain ⟨G1, S1, s1⟩ := S.frzS hi
    exact ⟨G0, H0, G1, _, p, S1, o.gro s1⟩
  · exact o.elim
theorem s_frz {X : Cx} {C : Ctx} {W : WX} (i : Nat) {st : Stmt} {m : SM} (h : PS X st (rS C W m)) : PS X st (rS C W (mFrzS i m)) := h.of fun D σ H ⟨G0, H0, G, env, p, S, o⟩ => by
  unfold mFrzS at o
  split at o
  · rename_i ds hi
    obtain ⟨G1, S1, s1⟩ := S.frzS hi
    exact ⟨G0, H0, G1, _, p, S1, o.gro s1⟩
  · exact o.elim
/-- a slot forgotten -/
def mFgt (i : Nat) (m : SM) : SM := fun env p => m (env.set i .un) p
end Pu
end

section
set_option maxHeartbeats 2000000
namespace Pu
open PySem PySem.Spec PyProof.Rows L2

/-! ### list comprehensions -/
def wipeE (env : Env) : List Nat → Env
  | [] => env
  | v :: vs => (wipeE env vs).set v .un
theorem LOk.wipe {C : Ctx} {G H : Hp} {σ : St} {env : Env} {p : Pen} (L : LOk C G H σ env p) : ∀ vs : List Nat, LOk C G H (L2.wipe σ vs) (wipeE env vs) p
  | [] => L
  | v :: vs => (LOk.wipe L vs).setU v
theorem Less.wipe {σ : St} {env : Env} : ∀ vs : List Nat, Less (L2.wipe σ vs) (wipeE env vs) σ env
  | [] => Less.refl _ _
  | v :: vs => (Less.setU v).trans (Less.wipe vs)
theorem wipe_in {σ : St} {i : Nat} : ∀ {vs : List Nat}, i ∈ vs → i < σ.length → (L2.wipe σ vs)[i]? = some none
  | v :: vs, h, hl => by
    unfold L2.wipe
    by_cases e : i = v
    · subst e
      rw [List.getElem?_set_self (by rw [wipe_length]; exact hl)]
    · rw [List.getElem?_set_ne (fun z => e z.symm)]
      rcases List.mem_cons.mp h with z | z
      · exact absurd z e
      · exact wipe_in z hl
theorem wipe_same {σ σ' : St} {is vs : List Nat} (s : Same is σ' (L2.wipe σ vs)) (h : ∀ i ∈ is, i ∈ vs) : L2.wipe σ' vs = L2.wipe σ vs := by
  apply List.ext_getElem?
  intro i
  have hl : σ'.length = σ.length := by rw [s.len, wipe_length]
  by_cases hi : i ∈ vs
  · by_cases h2 : i < σ.length
    · rw [wipe_in hi h2, wipe_in hi (by rw [hl]; exact h2)]
    · rw [List.getElem?_eq_none (by rw [wipe_length]; omega), List.getElem?_eq_none (by rw [wipe_length]; omega)]
  · rw [wipe_out hi, s.out i (fun z => hi (h i z))]
/-- errors are not borne here -/
def _root_.Pu.Out.ne {α : Type} (o : Out α) : Out α := match o with
  | .ok a p => .ok a p
  | _ => .bad
theorem OutP.ne {α : Type} {o : Out α} {f : α → Pen → Prop} {g g' : Err → Pen → Prop} (h : OutP o.ne f g) : OutP o f g' := by
  cases o
  · exact h
  · exact False.elim h
  · exact h
def compL (g : GM) (tt : TM) (te : EM) (env : Env) : List D → Pen → Out (List D)
  | [], p => .ok [] p
  | d :: ds, p => match g d env with
    | none => .bad
    | some env1 => (tt env1 p).ne.bind fun k p1 => if k = true then (te env1 p1).ne.bind fun x p2 => (compL g tt te env ds p2).bind fun xs p3 => .ok (x :: xs) p3 else compL g tt te env ds p1
def mComp (it : AM) (vs : List Nat) (g : GM) (tt : TM) (te : EM) : AM := fun env p => (it env p).bind fun ds q => if ds.length ≤ sizeLine then compL g tt te (wipeE env vs) ds q else .bad
abbrev W0 : WX := fun _ _ _ _ => False
def tmYes : TM := fun _ p => .ok true p
/-- the new list's own place -/
theorem LOk.updF {C : Ctx} {G H : Hp} {σ : St} {env : Env} {p : Pen} (L : LOk C G H σ env p) {l : Addr} {vs ys : List V} (h : H l = some (.lst vs)) (g : G l = none) (n : ∀ (j : Nat) (es : List D), env[j]? = some (.own es) → σ[j]? ≠ some (some (.ref l))) : LOk C G (upd H l (.lst ys)) σ env p := by
  refine ⟨fun a o e => ?_, tabs_upd L.tab h, fun a e => ?_, L.len, fun j x s q1 q2 => ?_, L.dis, L.nt⟩
  · rw [upd_ne (ne_of_none e g)]
    exact L.sub a o e
  · obtain ⟨k1, k2, k3⟩ := L.pen a e
    refine ⟨k1, ?_, k3⟩
    rw [upd_ne (ne_of k2 h (by intro w; cases w))]
    exact k2
  · have s0 := L.slot j x s q1 q2
    cases s0 with
    | un => exact .un _
    | val r => exact .val r
    | @own a vs2 ds2 w1 w2 w3 =>
      refine .own ?_ w2 w3
      rw [upd_ne (fun z => n j _ q2 (by rw [q1, z]))]
      exact w1
theorem Ext.updF {C : Ctx} {G0 H0 G H : Hp} (x : Ext C G0 H0 G H) {l : Addr} {vs ys : List V} (h : H l = some (.lst vs)) (g : G l = none) (h0 : H0 l = none) : Ext C G0 H0 G (upd H l (.lst ys)) := by
  refine ⟨fun a o e => ?_, x.gro, x.new, fun a o e n1 n2 => ?_, fun a e => ?_, tabs_upd x.tab h⟩
  · rw [upd_ne (ne_of_none e g)]
    exact x.sub a o e
  · rw [upd_ne (ne_of_none e h0)]
    exact x.kee a o e n1 n2
  · by_cases na : a = l
    · rw [na, upd_same] at e
      cases e
    · rw [upd_ne na] at e
      exact x.fre a e
section
variable {X : Cx} {C : Ctx} {W : WX} {fz : Bool} {it : AM} {vs is : List Nat} {g : GM} {tt : TM} {te : EM}
theorem Ext.kept {G H G' H' : Hp} (x : Ext C G H G' H') : Kept C fz H H' := fun _ a o e n1 n2 => x.kee a o e n1 n2
theorem rd_lc (hv : ∀ i ∈ is, i ∈ vs) {σ : St} {H : Hp} {Q : VK} (h : rF C W (mComp it vs g tt te) σ H Q) : tLc (rI C W false it) (rG C is g) (rT C W0 tt) (rE C W0 te) vs σ H Q := by
  obtain ⟨G, env, p, L, o⟩ := h
  refine ⟨G, env, p, L, o.bind.imp (fun ds q z J G1 H1 x1 y1 t => ?_) fun _ _ z => z⟩
  intro l hl
  split at z
  · rename_i hz
    obtain ⟨Gw, Y, w, w1, w2⟩ := t
    have L1 := L.step x1 y1
    have hgl : G1 l = none := free_of x1.sub hl
    have al0 : Alc G1 H1 G1 (upd H1 l (.lst [])) := Alc.own x1.sub hl
    have nl : ∀ (j : Nat) (es : List D), (wipeE env vs)[j]? = some (.own es) → (L2.wipe σ vs)[j]? ≠ some (some (.ref l)) := fun j es e1 e2 => by
      obtain ⟨q1, q2⟩ := Less.wipe vs j es l e1 e2
      exact L1.notOwn (G1 := G1) hl j es q1 q2
    refine lc_it w (fun i H' => ∃ G' p' acc ad, LOk C G' H' (L2.wipe σ vs) (wipeE env vs) p' ∧ Ext C G1 H1 G' H' ∧ G' l = none ∧ H' l = some (.lst acc) ∧ Reps C G' acc ad ∧ acc.length ≤ i ∧
      OutP (compL g tt te (wipeE env vs) (ds.drop i) p') (fun xs q => ∀ a ws G2 H2, Ext C G H G2 H2 → PenAt C G2 H2 q → H a = none → G2 a = none → H2 a = some (.lst ws) → Reps C G2 ws (ad ++ xs) → Q (.ref a) H2) (ErrP C W G H σ)) ?_ ?_ ?_ ?_
    · refine ⟨G1, q, [], [], (L1.alc al0).wipe vs, L1.ext al0, hgl, upd_same, .nil, Nat.le_refl _, ?_⟩
      rw [List.drop_zero]
      exact z
    · rintro i H' hi ⟨G', p', acc, ad, L', x', g', h', r', n', o'⟩
      exact w1 G' H' x'.gro L'.sub x'.kept
    · rintro i x H' H'' hi ⟨G', p', acc, ad, L', x', g', h', r', n', o'⟩ y
      have hd : ds[i]? = some ds[i] := List.getElem?_eq_getElem hi
      obtain ⟨G2, al, rx⟩ := w2 i ds[i] G' H' x H'' hd x'.gro L'.sub y
      have L2' := L'.alc al
      rw [List.drop_eq_getElem_cons hi] at o'
      unfold compL at o'
      cases eg : g ds[i] (wipeE env vs) with
      | none =>
        rw [eg] at o'
        exact o'.elim
      | some env1 =>
        rw [eg] at o'
        have o1 : OutP ((tt env1 p').ne.bind fun k p1 => if k = true then (te env1 p1).ne.bind fun x p2 => (compL g tt te (wipeE env vs) (ds.drop (i + 1)) p2).bind fun xs p3 => .ok (x :: xs) p3 else compL g tt te (wipeE env vs) (ds.drop (i + 1)) p1) _ _ := o'
        refine ⟨G2, wipeE env vs, p', ds[i], env1, L2', rx, eg, fun σ2 Ls _ sm => ⟨wipe_same sm hv, G2, env1, p', Ls, o1.bind.ne.imp (fun k q2 z2 G3 H3 x3 y3 => ?_) fun _ _ z => z⟩⟩
        have x13 := (x'.trans (L'.ext al)).trans x3
        have L3 := L2'.step x3 y3
        have keepD : ∀ {G4 H4 : Hp} {q4 : Pen}, Ext C G2 H'' G4 H4 → PenAt C G4 H4 q4 → H4 l = some (.lst acc) ∧ G4 l = none := fun {G4 H4 q4} x4 y4 => by
          have e2 : H'' l = some (.lst acc) := al.kee _ _ h'
          have e3 := x4.stayL L2'.pen e2
          refine ⟨e3, ?_⟩
          cases e : G4 l with
          | none => rfl
          | some o =>
            rcases x4.new l o e with u | u | ⟨c, u⟩
            · rcases al.new l o u with v | v
              · rw [g'] at v
                cases v
              · rw [h'] at v
                cases v
            · rw [e2] at u
              cases u
            · rw [x4.sub _ _ e, u] at e3
              cases e3
        cases k with
        | false =>
          rw [if_neg Bool.false_ne_true] at z2
          show if false = true then _ else _
          rw [if_neg Bool.false_ne_true]
          obtain ⟨k1, k2⟩ := keepD x3 y3
          exact ⟨G3, q2, acc, ad, L3, x13, k2, k1, (r'.mono al.gro).mono x3.gro, by omega, z2⟩
        | true =>
          rw [if_pos rfl] at z2
          show if true = true then _ else _
          rw [if_pos rfl]
          refine ⟨G3, env1, q2, Ls.step x3 y3, z2.bind.ne.imp (fun d q4 z4 v G4 H4 x4 y4 r4 => ?_) fun _ _ z => z⟩
          have x34 := x3.trans x4
          obtain ⟨k1, k2⟩ := keepD x34 y4
          have L4 := L3.step x4 y4
          have x14 := x13.trans x4
          refine ⟨acc, k1, by omega, G4, q4, acc ++ [v], ad ++ [d], L4.updF k1 k2 nl, x14.updF k1 k2 hl, k2, upd_same, (((r'.mono al.gro).mono x3.gro).mono x4.gro).append (Reps.one r4), by rw [List.length_append, List.length_singleton]; omega, z4.bind.imp (fun xs q5 z5 a ws G5 H5 e1 e2 e3 e4 e5 e6 => z5 a ws G5 H5 e1 e2 e3 e4 e5 (by rw [List.append_assoc] at e6; exact e6)) fun _ _ z => z⟩
    · rintro H' ⟨G', p', acc, ad, L', x', g', h', r', n', o'⟩
      rw [List.drop_length] at o'
      exact o' l acc G' H' (x1.trans x') L'.pen (x1.fre _ hl) g' h' (by rw [List.append_nil]; exact r')
  · exact z.elim
end
end Pu
end

section
set_option maxHeartbeats 2000000
namespace Pu
open PySem PySem.Spec PyProof.Rows L2

section
variable {X : Cx} {C : Ctx} {W : WX} {it : AM} {is : List Nat} {g : GM} {tt : TM} {te : EM} {elt tg iter : Expr} {ifs : List Expr} {scope : Scope} {own : List (Str × Nat)} {pos : Pos}
theorem pts_of {Y : Cx} {ifs : List Expr} {t t' : TT} (h : PTs Y ifs t) (i : ∀ σ H Q, t' σ H Q → t σ H Q) : PTs Y ifs t' := ⟨fun pins s σ H Q I z => h.run pins s σ H Q I (i _ _ _ z)⟩
theorem tms_nil {Y : Cx} : PTs Y [] (rT C W0 tmYes) := pts_of pts_nil fun σ H Q ⟨G, env, p, L, o⟩ => o G H (Ext.refl L.sub L.tab) L.pen
theorem tms_one {Y : Cx} {c : Expr} (h : PT Y c (rT C W0 tt)) : PTs Y [c] (rT C W0 tt) := pts_one h
theorem pm_lc (hc : X.calm = true) (hN : X.N.Nodup) (hi : PI X tg iter (rI C W false it)) (ok : BlkOk X.N X.env.scope scope own)
    (hg : ∀ (s : Shared) (H : Hp) (Cb : Addr) (cl : List (Str × Addr)) (fp : List Addr), PG (X.blk s H scope (compEnvC scope cl Cb X.env) fp) tg (rG C is g)) (ht : ∀ (s : Shared) (H : Hp) (Cb : Addr) (cl : List (Str × Addr)) (fp : List Addr), PTs (X.blk s H scope (compEnvC scope cl Cb X.env) fp) ifs (rT C W0 tt))
    (he : ∀ (s : Shared) (H : Hp) (Cb : Addr) (cl : List (Str × Addr)) (fp : List Addr), PE (X.blk s H scope (compEnvC scope cl Cb X.env) fp) elt (rE C W0 te)) (hv : ∀ i ∈ is, i ∈ own.map (·.2) := by decide) (hs : ∀ x, foldedSetIterable iter X.env x = pure x := by intro _; rfl) :
    PE X (.ListComp elt [⟨tg, iter, ifs, 0⟩] scope pos) (rF C W (mComp it (own.map (·.2)) g tt te)) := (pe_lc hc hN hi ok hg ht he hs).of fun σ H Q h => rd_lc hv h
/-- name = [..] on one line -/
theorem sm_setLc (i : Nat) {y : Str} {py spos : Pos} (hc : X.calm = true) (hN : X.N.Nodup) (hi : PI X tg iter (rI C W false it)) (ok : BlkOk X.N X.env.scope scope own)
    (hg : ∀ (s : Shared) (H : Hp) (Cb : Addr) (cl : List (Str × Addr)) (fp : List Addr), PG (X.blk s H scope (compEnvC scope cl Cb X.env) fp) tg (rG C is g)) (ht : ∀ (s : Shared) (H : Hp) (Cb : Addr) (cl : List (Str × Addr)) (fp : List Addr), PTs (X.blk s H scope (compEnvC scope cl Cb X.env) fp) ifs (rT C W0 tt))
    (he : ∀ (s : Shared) (H : Hp) (Cb : Addr) (cl : List (Str × Addr)) (fp : List Addr), PE (X.blk s H scope (compEnvC scope cl Cb X.env) fp) elt (rE C W0 te)) (hv : ∀ i ∈ is, i ∈ own.map (·.2) := by decide) (hy : X.N[i]? = some y := by rfl) (hyl : X.env.scope.names.lookup y = some .local := by rfl)
    (hsw : swapsWith (.ListComp elt [⟨tg, iter, ifs, 0⟩] scope pos) (some (.Name y py)) spos.line X.env = pure true := by rfl) (hs : ∀ x, foldedSetIterable iter X.env x = pure x := by intro _; rfl) :
    PS X (.Assign [.Name y py] (.ListComp elt [⟨tg, iter, ifs, 0⟩] scope pos) spos) (rS C W (mSetO (mComp it (own.map (·.2)) g tt te) i)) := (ps_setLc hc hN hy hyl hsw hi ok hg ht he hs).of fun D σ H h => rd_lc hv (rd_setO h)
end

/-! ### defs -/
def env0 (n : Nat) (ds : List D) : Env := ds.map Slot.val ++ List.replicate (n - ds.length) Slot.un
def _root_.Pu.Res.fin (r : Res) : Out D := match r with
  | .next _ p => .ok .non p
  | .ret d p => .ok d p
  | .err e _ p => .err e p
  | _ => .bad
/-- a def's mirror by its body's -/
def mDef (n : Nat) (m : SM) : FM := fun ds p => (m (env0 n ds) p).fin
theorem start_ok {C : Ctx} {G H : Hp} {N : List Str} {vs : List V} {ds : List D} {p : Pen} (s : Sub G H) (t : Tb C H) (n : NT C G) (y : PenAt C G H p) (r : Reps C G vs ds) : LOk C G H (L2.start N vs) (env0 N.length ds) p := by
  have e0 : (L2.start N vs).length = (env0 N.length ds).length := by
    unfold L2.start env0
    rw [List.length_append, List.length_append, List.length_map, List.length_map, List.length_replicate, List.length_replicate, r.length]
  have own : ∀ (i : Nat) (es : List D), (env0 N.length ds)[i]? ≠ some (.own es) := fun i es e => by
    unfold env0 at e
    by_cases hi : i < ds.length
    · rw [List.getElem?_append_left (by rw [List.length_map]; exact hi), List.getElem?_map, List.getElem?_eq_getElem hi] at e
      cases e
    · rw [List.getElem?_append_right (by rw [List.length_map]; omega), List.getElem?_replicate] at e
      split at e
      · cases e
      · cases e
  refine ⟨s, t, y, e0, fun i x sl h1 h2 => ?_, fun i j es fs a h1 _ _ _ => absurd h1 (own i es), n⟩
  unfold L2.start at h1
  unfold env0 at h2
  by_cases hi : i < ds.length
  · rw [List.getElem?_append_left (by rw [List.length_map]; exact hi), List.getElem?_map, List.getElem?_eq_getElem hi] at h2
    have hi2 : i < vs.length := by rw [r.length]; exact hi
    rw [List.getElem?_append_left (by rw [List.length_map]; exact hi2), List.getElem?_map, List.getElem?_eq_getElem hi2] at h1
    cases h1
    cases h2
    obtain ⟨d, k1, k2⟩ := r.getL (List.getElem?_eq_getElem hi2)
    rw [List.getElem?_eq_getElem hi] at k1
    cases k1
    exact .val k2
  · rw [List.getElem?_append_right (by rw [List.length_map]; omega), List.getElem?_replicate] at h2
    split at h2
    · cases h2
      exact .un _
    · cases h2
theorem start_sok {C : Ctx} {G H : Hp} {N : List Str} {vs : List V} {ds : List D} {p : Pen} (s : Sub G H) (t : Tb C H) (n : NT C G) (y : PenAt C G H p) (r : Reps C G vs ds) : SOk C G H G H (L2.start N vs) (env0 N.length ds) p := by
  refine ⟨start_ok s t n y r, Ext.refl s t, fun i es a e => ?_⟩
  unfold env0 at e
  by_cases hi : i < ds.length
  · rw [List.getElem?_append_left (by rw [List.length_map]; exact hi), List.getElem?_map, List.getElem?_eq_getElem hi] at e
    cases e
  · rw [List.getElem?_append_right (by rw [List.length_map]; omega), List.getElem?_replicate] at e
    split at e
    · cases e
    · cases e
/-- what a def's body is told: all but where the call stands -/
abbrev Body (gd : Bool) (C : Ctx) (P : Program) (w : World) (base : Heap) (N : List Str) (qual : Str) (scope : Scope) (f : Addr) (cd : Value) (k : Nat) (body : List Stmt) (m : SM) : Prop :=
  ∀ (A : Around) (outer : List PySem.Env) (s : Shared) (H : Hp) (E : XK), Wk (cxOf (L2.CX P w) P w C.K C.mg base N qual scope f cd A outer s H E) C (fun cls d _ H => E cls d H) gd k → PSs (cxOf (L2.CX P w) P w C.K C.mg base N qual scope f cd A outer s H E) body (rS C (fun cls d _ H => E cls d H) m)
theorem fn_pu {gd : Bool} {C : Ctx} {P : Program} {w : World} {base : Heap} {k : Nat} {f : Addr} {name qual : Str} {params : Arguments} {body : List Stmt} {scope : Scope} {dV kV doc pm cdv ct oc : Value} {an od : Option Addr}
    {osl : Array (Option Value)} {N ps : List Str} {m : SM} (lk : C.K.lookup f = some ⟨oc, od, .func (PySem.W.fnOf name qual params body scope dV kV doc pm an cdv ct), osl⟩) (hcd : PySem.W.codeIn C.K cdv qual = true) (S : FnScope N ps scope) (hx : C.ex = none)
    (hb : Body gd C P w base N qual scope f cdv k body m) :
    FnA gd P w C.K C.mg base (L2.CX P w) (k + 1) f (PySem.W.fnOf name qual params body scope dV kV doc pm an cdv ct) ps (spM C (mDef N.length m) ps.length) := by
  refine ⟨fun vs H Q E ⟨_, _, _, h, _⟩ => h, fun A outer s H args us vs Q E hr hg e0 hbi r hsp => ?_⟩
  obtain ⟨G, ds, p, hl, hs, ht, hn, hy, hr', ho⟩ := hsp
  refine LamX.run_ofS (CX := L2.CX P w) lk hcd S hr e0 hbi r hl fun room => ⟨_, hb A outer s H E ⟨rfl, rfl, room, hg, takes_of rfl rfl rfl rfl, hx⟩, G, H, G, env0 N.length ds, p, start_sok hs ht hn hy hr', ?_⟩
  unfold mDef at ho
  cases e : m (env0 N.length ds) p with
  | next env q =>
    rw [e] at ho
    exact fun σ' G' H' S' _ => ho .non G' H' S'.x S'.l.pen .non
  | ret d q =>
    rw [e] at ho
    exact ho
  | err er env q =>
    rw [e] at ho
    exact fun cls dd σ' G' H' S' _ r => ho cls dd G' H' S'.x S'.l.pen r
  | brk env q =>
    rw [e] at ho
    exact ho.elim
  | cnt env q =>
    rw [e] at ho
    exact ho.elim
  | bad =>
    rw [e] at ho
    exact ho.elim
theorem Wk.blk {X : Cx} {C : Ctx} {W : WX} {gd : Bool} {k : Nat} (w : Wk X C W gd k) (s : Shared) (H : Hp) (scope : Scope) (Cb : Addr) (cl : List (Str × Addr)) (fp : List Addr) : Wk (X.blk s H scope (compEnvC scope cl Cb X.env) fp) C W0 gd k := ⟨w.K, w.mg, w.room, w.gd, takes0, w.cold⟩
end Pu
end

section
set_option maxHeartbeats 2000000
namespace Pu
open PySem PySem.Spec PyProof.Rows L2

/-! ### the end of a law: its def called by the caller itself (no repr is under way there) -/
/-- what is tracked at the start: the empty tables, sys.modules, the script (where it is none of the written part's objects) -/
def seen (ts : List Addr) (m : HO) (a : Addr) (fr : Bool) (o : HO) : Hp := fun b => if b ∈ ts then some (.tbl #[]) else if b = sysModules then some m else if b = a ∧ fr = true then some o else none
section
variable {ts : List Addr} {a b : Addr} {fr : Bool} {o u m : HO}
theorem seen_tab (h : b ∈ ts) : seen ts m a fr o b = some (.tbl #[]) := if_pos h
theorem seen_mods (h : sysModules ∉ ts) : seen ts m a fr o sysModules = some m := by
  unfold seen
  rw [if_neg h, if_pos rfl]
theorem seen_script (h : a ∉ ts) (h2 : a ≠ sysModules) (hf : fr = true) : seen ts m a fr o a = some o := by
  unfold seen
  rw [if_neg h, if_neg h2, if_pos ⟨rfl, hf⟩]
theorem seen_none (h : b ∉ ts) (h1 : b ≠ sysModules) (h2 : ¬ (b = a ∧ fr = true)) : seen ts m a fr o b = none := by
  unfold seen
  rw [if_neg h, if_neg h1, if_neg h2]
theorem seen_some (h : seen ts m a fr o b = some u) : (b ∈ ts ∧ u = .tbl #[]) ∨ (b ∉ ts ∧ b = sysModules ∧ u = m) ∨ (b ∉ ts ∧ b = a ∧ fr = true ∧ u = o) := by
  unfold seen at h
  by_cases h1 : b ∈ ts
  · rw [if_pos h1] at h
    exact .inl ⟨h1, (Option.some.inj h).symm⟩
  · rw [if_neg h1] at h
    by_cases h3 : b = sysModules
    · rw [if_pos h3] at h
      exact .inr (.inl ⟨h1, h3, (Option.some.inj h).symm⟩)
    · rw [if_neg h3] at h
      by_cases h2 : b = a ∧ fr = true
      · rw [if_pos h2] at h
        exact .inr (.inr ⟨h1, h2.1, h2.2, (Option.some.inj h).symm⟩)
      · rw [if_neg h2] at h
        cases h
end
/-- what the head has told of the heap at which the law is called -/
structure Told (P : Program) (w : World) (K : PySem.W.Frag) (mg mb : Str → Option Value) (s : Shared) (a : Addr) (vs : List Value) (ns : List Int) (cs : List (Addr × Addr)) (om : Obj) : Prop where
  kin : K.In s.heap
  glob : s.heap.Ns mainGlobals mg
  blt : s.heap.Ns builtinsNs mb
  boot : ∀ x : Str, x ≠ "__name__" → mb x = bootBuiltins x
  lim : s.heap.NoLimit
  gens : s.gens = #[]
  tab : ∀ p ∈ cs, s.heap.get? p.2 = some { cls := .none, data := .fields #[] }
  out : ∀ p ∈ cs, K.lookup p.2 = none
  code : ∀ p ∈ cs, PySem.W.CodeHd s.heap p.1 p.2
  bm : ∃ (bm : Addr) (ob : Obj), mg "__builtins__" = some (.ref bm) ∧ bm ≠ builtinsNs ∧ s.heap.get? bm = some ob ∧ ob.cls = .type "module" ∧ ob.dict = some builtinsNs ∧ ob.data = .plain
  script : s.heap.get? a = some { cls := .type "list", data := .seq vs.toArray }
  are : IntsAre vs ns
  line : ns.length ≤ sizeLine
  mods : s.heap.get? sysModules = some om
  modsD : ∃ es n, om.data = .dict es n
  modsK : K.lookup sysModules = none
section
variable {P : Program} {w : World} {K : PySem.W.Frag} {mg mb : Str → Option Value} {s : Shared} {a : Addr} {vs : List Value} {ns : List Int} {cs : List (Addr × Addr)} {om : Obj}
def Told.ts (_ : Told P w K mg mb s a vs ns cs om) : List Addr := cs.map (·.2)
/-- the heap as the law's proof sees it -/
def Told.hp (t : Told P w K mg mb s a vs ns cs om) : Hp := seen t.ts (.frz om (.own 0)) a (K.lookup a).isNone (.frz { cls := .type "list", data := .seq vs.toArray } (.lst (ns.map V.int)))
theorem Told.isTab (t : Told P w K mg mb s a vs ns cs om) {b : Addr} (h : b ∈ t.ts) : s.heap.get? b = some { cls := .none, data := .fields #[] } := by
  obtain ⟨p, h1, h2⟩ := List.mem_map.mp h
  exact h2 ▸ t.tab p h1
theorem Told.mem (t : Told P w K mg mb s a vs ns cs om) {p : Addr × Addr} (h : p ∈ cs) : p.2 ∈ t.ts := List.mem_map.mpr ⟨p, h, rfl⟩
theorem Told.aT (t : Told P w K mg mb s a vs ns cs om) : a ∉ t.ts := fun h => by
  have e := (t.isTab h).symm.trans t.script
  cases congrArg (fun q : Option Obj => q.map (·.data)) e
theorem Told.mT (t : Told P w K mg mb s a vs ns cs om) : sysModules ∉ t.ts := fun h => by
  have e := (t.isTab h).symm.trans t.mods
  obtain ⟨es, n, d⟩ := t.modsD
  cases e
  cases d
theorem Told.aM (t : Told P w K mg mb s a vs ns cs om) : a ≠ sysModules := fun h => by
  obtain ⟨es, n, d⟩ := t.modsD
  have e := t.script
  rw [h, t.mods] at e
  cases e
  cases d
/-- an object of another kind is not tracked -/
theorem Told.other (t : Told P w K mg mb s a vs ns cs om) {b : Addr} {o : Obj} (e : s.heap.get? b = some o) (h0 : b ≠ sysModules) (h1 : o.data ≠ .seq vs.toArray 0) (h2 : o.data ≠ .fields #[]) : t.hp b = none := by
  refine seen_none (fun h => h2 ?_) h0 fun h => h1 ?_
  · have q := e.symm.trans (t.isTab h)
    cases q
    rfl
  · have q := t.script
    rw [← h.1, e] at q
    cases q
    rfl
theorem Told.see (t : Told P w K mg mb s a vs ns cs om) {b : Addr} {o : Obj} (e : s.heap.get? b = some o) (h0 : b ≠ sysModules) (h1 : o.data ≠ .seq vs.toArray 0) (h2 : o.data ≠ .fields #[]) : (hidT s.heap t.hp).get? b = some o := hidT_get e (t.other e h0 h1 h2)
theorem Told.nM (t : Told P w K mg mb s a vs ns cs om) {b : Addr} {o : Obj} (e : s.heap.get? b = some o) (h : ∀ es n, o.data ≠ .dict es n) : b ≠ sysModules := fun z => by
  obtain ⟨es, n, d⟩ := t.modsD
  rw [z, t.mods] at e
  cases e
  exact h _ _ d
theorem Told.hok (t : Told P w K mg mb s a vs ns cs om) : HOk P w t.hp s.heap := fun b u h => by
  rcases seen_some h with ⟨h1, h2⟩ | ⟨_, h1, h2⟩ | ⟨_, h1, _, h2⟩
  · rw [h2]
    exact t.isTab h1
  · rw [h1, h2]
    exact ⟨t.mods, _, t.mods⟩
  · rw [h1, h2]
    exact ⟨t.script, (List.length_map (as := ns) V.int).symm ▸ t.line, vs, 0, vals_ints t.are, t.script⟩
theorem Told.nsp (t : Told P w K mg mb s a vs ns cs om) {b : Addr} {m : Str → Option Value} (h : s.heap.Ns b m) (hb : b ≠ sysModules) : (hidT s.heap t.hp).Ns b m := by
  obtain ⟨ob, es, k, e, d, rest⟩ := h
  refine ⟨ob, es, k, t.see e hb ?_ ?_, d, rest⟩ <;> (rw [d]; intro z; cases z)
theorem Told.kb (t : Told P w K mg mb s a vs ns cs om) : K.In (hidT s.heap t.hp) := fun b ob e => by
  refine hidT_get (t.kin b ob e) (seen_none (fun h => ?_) (fun h => ?_) fun h => ?_)
  · obtain ⟨p, h1, h2⟩ := List.mem_map.mp h
    rw [← h2, t.out p h1] at e
    cases e
  · rw [h, t.modsK] at e
    cases e
  · rw [h.1] at e
    rw [e] at h
    cases h.2
theorem Told.mod (t : Told P w K mg mb s a vs ns cs om) : L2.Mod K mg (hidT s.heap t.hp) := ⟨t.kb, t.nsp t.glob (by decide), ⟨mb, t.nsp t.blt (by decide), t.boot⟩, t.lim.elim fun m h => ⟨m, t.nsp h.1 (by decide), h.2⟩⟩
theorem Told.tabB (t : Told P w K mg mb s a vs ns cs om) {p : Addr × Addr} (hp : p ∈ cs) : LamX.TabB (hidT s.heap t.hp) mg p.1 p.2 := by
  have dg : mainGlobals ≠ p.2 := fun z => by
    obtain ⟨ob, es, k, e, d, _⟩ := t.glob
    rw [z, t.tab p hp] at e
    cases e
    cases d
  refine ⟨?_, ?_, dg⟩
  · obtain ⟨ob, us, c1, c2, c3, c4, c5, c6, c7, e, dc, d, sz, rest⟩ := t.code p hp
    refine ⟨ob, us, c1, c2, c3, c4, c5, c6, c7, t.see e (t.nM e fun _ _ z => by rw [d] at z; cases z) (fun z => ?_) (fun z => ?_), dc, d, sz, rest⟩
    · rw [d] at z
      cases z
    · rw [d] at z
      cases z
      simp at sz
  · obtain ⟨bm, ob, k1, k2, k3, k4, k5, k6⟩ := t.bm
    refine ⟨bm, ob, k1, k2, fun z => ?_, fun z => ?_, t.see k3 (t.nM k3 fun _ _ z => by rw [k6] at z; cases z) (fun z => ?_) (fun z => ?_), k4, k5, k6⟩
    · obtain ⟨og, es, k, e, d, _⟩ := t.glob
      rw [z, e] at k3
      cases k3
      rw [k6] at d
      cases d
    · rw [z, t.tab p hp] at k3
      cases k3
      cases k6
    · rw [k6] at z
      cases z
    · rw [k6] at z
      cases z
theorem Told.env0 (t : Told P w K mg mb s a vs ns cs om) : Env0 P w K mg (hidT s.heap t.hp) callerA [] s t.hp where
  frames := rfl
  mod := t.mod
  bs := fun b o e => of_hidT e
  bsz := Nat.le_of_eq (hidT_size _ _)
  funs := trivial
  frf := fun b h => nomatch (show b ∈ ([] : List Addr) from h)
  hok := t.hok
  bare := .of_eq t.gens
theorem Told.noL (t : Told P w K mg mb s a vs ns cs om) (ys : List V) : t.hp a ≠ some (.lst ys) := fun e => by
  rcases seen_some e with ⟨h, _⟩ | ⟨_, h, _⟩ | ⟨_, _, _, h⟩
  · exact t.aT h
  · exact t.aM h
  · cases h
theorem Told.sql (t : Told P w K mg mb s a vs ns cs om) : SqL K t.hp a (ns.map V.int) := by
  cases hk : K.lookup a with
  | none => exact .inl (.inr ⟨_, seen_script t.aT t.aM (by rw [hk] <;> rfl)⟩)
  | some ob =>
    have e := (t.kin a ob hk).symm.trans t.script
    cases e
    refine .inr ⟨_, vs.toArray, 0, hk, rfl, rfl, rfl, ?_, by simpa using vals_ints t.are⟩
    rw [List.size_toArray, t.are.length]
    exact t.line
/-- at the end all is as it was, but for the tables -/
theorem Told.old (t : Told P w K mg mb s a vs ns cs om) {H' : Hp} {s' : Shared} (un : Un (frs []) [] t.hp H' s.heap s'.heap) (hok' : HOk P w H' s'.heap) : OldK s.heap s'.heap := by
  have nil : ∀ b : Addr, b ∉ frs ([] : List PySem.Env) := fun b z => nomatch (show b ∈ ([] : List Addr) from z)
  have stay : ∀ b o, b ∉ t.ts → s.heap.get? b = some o → s'.heap.get? b = some o := fun b o n e => by
    cases q : t.hp b with
    | none => exact un.keep b o e q (nil b) List.not_mem_nil
    | some u =>
      rcases seen_some q with ⟨z, _⟩ | ⟨_, h1, h2⟩ | ⟨_, h1, _, h2⟩
      · exact absurd z n
      · subst h1 h2
        have f := (hok' _ _ (un.frzs _ _ _ q)).1
        rw [t.mods] at e
        cases e
        exact f
      · subst h1 h2
        have f := (hok' b _ (un.frzs b _ _ q)).1
        rw [t.script] at e
        cases e
        exact f
  have grow : ∀ b, b ∈ t.ts → ∃ m : Array Value, s'.heap.get? b = some { cls := .none, data := .fields m } := fun b h => by
    obtain ⟨m, q⟩ := un.tbls b #[] (seen_tab h)
    exact ⟨_, hok' b _ q⟩
  refine ⟨fun b o e => ?_, fun b o e => ?_⟩
  · by_cases h : b ∈ t.ts
    · obtain ⟨m, q⟩ := grow b h
      obtain ⟨p, p1, p2⟩ := List.mem_map.mp h
      subst p2
      have e2 := (t.tab p p1).symm.trans e
      cases e2
      refine .inr (.inl ⟨((t.code p p1).tab (t.tab p p1)).isCodeTable, rfl, #[], m, rfl, ?_⟩)
      rw [Array.empty_append]
      exact q
    · exact .inl (stay b o h e)
  · by_cases h : b ∈ t.ts
    · obtain ⟨m, q⟩ := grow b h
      exact ⟨_, q⟩
    · exact ⟨o, stay b o h e⟩
theorem Told.law {gd : Bool} {k : Nat} {fa : Addr} {fd : FuncData} {x : Str} {sp : Sp} (t : Told P w K mg mb s a vs ns cs om) (hr : Room k callerA)
    (F : ∀ base : Heap, K.In base → base.Ns mainGlobals mg → (∀ p ∈ cs, LamX.TabB base mg p.1 p.2) → FnA gd P w K mg base (L2.CX P w) k fa fd [x] sp) (hb : ∀ (s : Shared) (u : Value), BindsTo s fd ⟨[u], []⟩ [(x, u)])
    (hsp : ∀ H : Hp, (∃ o u, H sysModules = some (.frz o u)) → (∀ p ∈ cs, H p.2 = some (.tbl #[])) → SqL K H a (ns.map V.int) → (∀ ys, H a ≠ some (.lst ys)) → sp [.ref a] H (fun v _ => v = .bl true) fun _ _ _ => False) :
    codeAny (model P w) callerA (.call (.ref fa) ⟨[.ref a], []⟩) (fun r s' => r = .ok (.ret (.bool true)) ∧ OldK s.heap s'.heap ∧ s'.os = s.os ∧ AllBare s'.gens) s := by
  have f := F _ t.kb (t.nsp t.glob (by decide)) fun p hp => t.tabB hp
  have run := f.run callerA [] s t.hp ⟨[.ref a], []⟩ [.ref a] [.ref a] (fun v _ => v = .bl true) (fun _ _ _ => False) hr (fun _ => rfl) t.env0 (hb s (.ref a)) (.cons rfl .nil) (hsp t.hp ⟨_, _, seen_mods t.mT⟩ (fun p hp => seen_tab (t.mem hp)) t.sql t.noL)
  refine codeAny_mono run fun res s2 fin => ?_
  cases res with
  | error e =>
    obtain ⟨_, _, _, _, _, _, _, _, _, _, _, _, _, _, _, _, z⟩ := fin
  | ok fl =>
    cases fl with
    | ret u =>
      obtain ⟨v, H', o1, o2, un, hk, rv, q⟩ := fin
      cases (show v = .bl true from q)
      cases (show u = Value.bool true from rv)
      exact ⟨rfl, t.old un hk, o1, o2⟩
    | next => exact (show False from fin).elim
    | brk => exact (show False from fin).elim
    | cont => exact (show False from fin).elim
end
/-- what is to be shown of a law's def at the head's heap -/
structure LawIs (l : PySem.W.OpenLaw) (w : World) (K : PySem.W.Frag) (k n : Nat) (x : Str) (mg : Str → Option Value) (fa : Addr) (h : Heap) : Prop where
  ex : ∃ (gd : Bool) (fd : FuncData) (cs : List (Addr × Addr)) (sp : Sp), (∀ p ∈ cs, h.get? p.2 = some { cls := .none, data := .fields #[] } ∧ K.lookup p.2 = none ∧ PySem.W.CodeHd h p.1 p.2) ∧ (∀ (s : Shared) (u : Value), BindsTo s fd ⟨[u], []⟩ [(x, u)]) ∧
    K.lookup sysModules = none ∧ (∃ o es n, h.get? sysModules = some o ∧ o.data = .dict es n) ∧ (∀ (H : Hp) (a : Addr) (ns : List Int), (∃ o u, H sysModules = some (.frz o u)) → ns.length ≤ n → (∀ z ∈ ns, Builtin.Int.intBits z ≤ 1048576) → (∀ p ∈ cs, H p.2 = some (.tbl #[])) → SqL K H a (ns.map V.int) → (∀ ys, H a ≠ some (.lst ys)) → sp [.ref a] H (fun v _ => v = .bl true) fun _ _ _ => False) ∧
    ∀ base : Heap, K.In base → base.Ns mainGlobals mg → (∀ p ∈ cs, LamX.TabB base mg p.1 p.2) → FnA gd l.prog w K mg base (L2.CX l.prog w) k fa fd [x] sp
theorem law_walk {l : PySem.W.OpenLaw} {n k : Nat} {q : Program} {loose : List Str} {XP : (Str → Option Value) → Heap → Prop} {YP : World → Heap → Prop} {d : DefRec} {x : Str} (hn : l.most = some n) (hn2 : n ≤ sizeLine) (hdf : d.params.defaults = []) (hr : Room k callerA)
    (F : ∀ (w : World) (mg : Str → Option Value) (fa : Addr) (h : Heap), YP w h → h.Ns mainGlobals mg → mg d.name = some (.ref fa) → ∃ K : PySem.W.Frag, K.In h ∧ LawIs l w K k n x mg fa h) :
    PySem.W.WalkO q loose XP YP l.row.toRowW d [] (fun f vs => PySem.call f vs) := by
  refine Att.attach_callB hn hdf ?_
  intro w s0 s mg mb fa o pm cd doc a vs ns G Y _ _ _ hmg hs hi hlen hbits hg
  obtain ⟨K, kin, ⟨gd, fd, cs, sp, hcs, hb, mK, ⟨om, mes, mn, m1, m2⟩, hsp, hF⟩⟩ := F w mg fa s.heap Y G.T.g hmg
  have t : Told l.prog w K mg mb s a vs ns cs om := ⟨kin, G.T.g, G.T.b, G.T.builtins, G.T.nolimit, hg, fun p h => (hcs p h).1, fun p h => (hcs p h).2.1, fun p h => (hcs p h).2.2, G.T.bmain, hs, hi, Nat.le_trans hlen hn2, m1, ⟨mes, mn, m2⟩, mK⟩
  exact t.law hr hF hb fun H hM hH hS hA => hsp H a ns hM hlen hbits hH hS hA

/-! ### the head's hook, sys.modules told too -/
def modsB (g : Addr → Option Obj) : Bool := match g sysModules with
  | some o => (match o.data with
    | .dict _ _ => true
    | _ => false)
  | none => false
theorem modsB_ok {g : Addr → Option Obj} (h : modsB g = true) : ∃ o es n, g sysModules = some o ∧ o.data = .dict es n := by
  unfold modsB at h
  split at h
  · rename_i o e
    split at h
    · rename_i es n d
      exact ⟨o, es, n, e, d⟩
    · cases h
  · cases h
def hookM (k : PySem.W.Hook) : PySem.W.Hook where
  α := k.α × Bool
  obs := fun s => (k.obs s, modsB s.heap.get?)
  val := fun w => (k.val w, true)
  says := fun w h => k.says w h ∧ ∃ o es n, h.get? sysModules = some o ∧ o.data = .dict es n
  of := fun w h e => ⟨k.of w h (congrArg Prod.fst e), modsB_ok (congrArg Prod.snd e)⟩
  keeps := fun w h h' c q => ⟨k.keeps w h h' c.1 q, let ⟨o, es, n, e, d⟩ := c.2; ⟨o, es, n, q _ _ e, d⟩⟩
end Pu
end

section
set_option maxHeartbeats 2000000
namespace Pu
open PySem PySem.Spec PyProof.Rows L2

/-! ### repr -/
def kPy : Key → PyData
  | .inl i => .int i
  | .inr x => .str x
mutual
def D.pr : D → PyData
  | .non => .none
  | .bl b => .bool b
  | .int i => .int i
  | .str x => .str x
  | .tup xs => .tuple (D.prs xs)
  | .lst xs => .list (D.prs xs)
  | .dct ks => .dict (D.prk ks)
  | .obj _ _ => .none
  | .pen => .none
  | .fn _ => .none
  | .ty _ => .none
  | .exc _ _ => .none
  | .scr _ => .none
  | .clo => .none
  | .lam _ => .none
def D.prs : List D → List PyData
  | [] => []
  | x :: xs => x.pr :: D.prs xs
def D.prk : List (Key × D) → List (PyData × PyData)
  | [] => []
  | (k, x) :: xs => (kPy k, x.pr) :: D.prk xs
end
mutual
def D.okP : D → Bool
  | .tup xs => D.okPs xs
  | .lst xs => D.okPs xs
  | .dct ks => D.okPk ks
  | .obj _ _ => false
  | .pen => false
  | .fn _ => false
  | .ty _ => false
  | .exc _ _ => false
  | .scr _ => false
  | .clo => false
  | .lam _ => false
  | .non => true
  | .bl _ => true
  | .int _ => true
  | .str _ => true
def D.okPs : List D → Bool
  | [] => true
  | x :: xs => x.okP && D.okPs xs
def D.okPk : List (Key × D) → Bool
  | [] => true
  | (_, x) :: xs => x.okP && D.okPk xs
end
theorem reads_key {h : Heap} {k : Key} {u : Value} (e : keyIs k u = true) : Reads h u (kPy k) [] := by
  rcases keyIs_shape e with ⟨i, t, rfl, rfl⟩ | ⟨x, t, rfl, rfl⟩
  · exact .int i t
  · exact .str x t
section
variable {X : Cx} {C : Ctx} {pins : List (Addr × Obj)} {σ : St} {G H : Hp} {s : Shared}
mutual
theorem Rep.rd (I : Inv X pins σ H s) (S : Sub G H) (hm : ∃ o u, H sysModules = some (.frz o u)) : ∀ {v : V} {d : D} {u : Value}, Rep C G v d → d.okP = true → RelV v u → ∃ as, Reads s.heap u d.pr as ∧ sysModules ∉ as
  | _, _, _, .non, _, r => by
    cases r
    simp only [D.pr]
    exact ⟨_, .none, List.not_mem_nil⟩
  | _, _, _, .bl b, _, r => by
    cases r
    simp only [D.pr]
    exact ⟨_, .bool b, List.not_mem_nil⟩
  | _, _, _, .int i, _, r => by
    obtain ⟨t, rfl⟩ := r
    simp only [D.pr]
    exact ⟨_, .int i t, List.not_mem_nil⟩
  | _, _, _, .str x, _, r => by
    obtain ⟨t, rfl⟩ := r
    simp only [D.pr]
    exact ⟨_, .str x t, List.not_mem_nil⟩
  | _, _, _, .tup h q, c, r => by
    simp only [D.okP] at c
    cases r
    obtain ⟨z, us, rv, ⟨o, ho, hc, n, hd⟩⟩ := I.hok _ _ (S _ _ h)
    obtain ⟨as, k1, k2⟩ := Reps.rd I S hm q c rv
    simp only [D.pr]
    exact ⟨as, .tuple ho hc hd k1, k2⟩
  | _, _, _, .lst h q, c, r => by
    simp only [D.okP] at c
    cases r
    obtain ⟨z, us, n, rv, ho⟩ := I.hok _ _ (S _ _ h)
    obtain ⟨as, k1, k2⟩ := Reps.rd I S hm q c rv
    simp only [D.pr]
    refine ⟨_, .list ho rfl rfl k1, fun m => ?_⟩
    rcases List.mem_cons.mp m with m | m
    · obtain ⟨o, u, e⟩ := hm
      rw [m, S _ _ h] at e
      cases e
    · exact k2 m
  | _, _, _, .dct h q, c, r => by
    simp only [D.okP] at c
    cases r
    obtain ⟨z, hd, vs, rel, o, es, ep, ho, hx, hda, hk, hp, nd⟩ := dk_of I.hok (S _ _ h)
    obtain ⟨as, k1, k2, k3⟩ := RepK.rd I S hm q c rel hp
    simp only [D.pr]
    refine ⟨_, .dict ho hx.1 hda k1 k2, fun m => ?_⟩
    rcases List.mem_append.mp m with m | m
    · rcases List.mem_cons.mp m with m | m
      · rw [← m] at hd
        cases hd
      · cases m
    · exact k3 m
  | _, _, _, .obj _ _ _, c, _ => by simp [D.okP] at c
  | _, _, _, .pen _, c, _ => by simp [D.okP] at c
  | _, _, _, .fn _, c, _ => by simp [D.okP] at c
  | _, _, _, .ty _, c, _ => by simp [D.okP] at c
  | _, _, _, .scr _, c, _ => by simp [D.okP] at c
  | _, _, _, .clo _ _, c, _ => by simp [D.okP] at c
  | _, _, _, .lam _ _ _, c, _ => by simp [D.okP] at c
  | _, _, _, .exc0 _ _, c, _ => by simp [D.okP] at c
  | _, _, _, .exc1 _ _ _ _, c, _ => by simp [D.okP] at c
theorem Reps.rd (I : Inv X pins σ H s) (S : Sub G H) (hm : ∃ o u, H sysModules = some (.frz o u)) : ∀ {vs : List V} {ds : List D} {us : List Value}, Reps C G vs ds → D.okPs ds = true → Vals vs us → ∃ as, ReadsAll s.heap us (D.prs ds) as ∧ sysModules ∉ as
  | _, _, _, .nil, _, .nil => by
    simp only [D.prs]
    exact ⟨_, .nil, List.not_mem_nil⟩
  | _, _, _, .cons h t, c, .cons r rr => by
    simp only [D.okPs, Bool.and_eq_true] at c
    obtain ⟨as, k1, k2⟩ := Rep.rd I S hm h c.1 r
    obtain ⟨bs, j1, j2⟩ := Reps.rd I S hm t c.2 rr
    simp only [D.prs]
    exact ⟨_, .cons k1 j1, fun m => (List.mem_append.mp m).elim k2 j2⟩
theorem RepK.rd (I : Inv X pins σ H s) (S : Sub G H) (hm : ∃ o u, H sysModules = some (.frz o u)) : ∀ {vs : List (Key × V)} {ds : List (Key × D)} {us : List (Key × Value)} {es : List DictEntry}, RepK C G vs ds → D.okPk ds = true → KV vs us → Pairs (mixKind X.prog X.w) es us →
    ∃ as, ReadsAll s.heap (es.map (·.key)) ((D.prk ds).map (·.1)) [] ∧ ReadsAll s.heap (es.map (·.val)) ((D.prk ds).map (·.2)) as ∧ sysModules ∉ as
  | _, _, _, _, .nil, _, .nil, .nil => by
    simp only [D.prk]
    exact ⟨_, .nil, .nil, List.not_mem_nil⟩
  | _, _, _, _, .cons h t, c, .cons r rr, .cons e1 e2 e3 => by
    simp only [D.okPk, Bool.and_eq_true] at c
    obtain ⟨r1, r2⟩ := r
    rw [← e2] at r2
    obtain ⟨as, k1, k2⟩ := Rep.rd I S hm h c.1 r2
    obtain ⟨bs, j1, j2, j3⟩ := RepK.rd I S hm t c.2 rr e3
    simp only [D.prk, List.map_cons]
    refine ⟨_, ReadsAll.cons (as := []) (bs := []) (reads_key ((congrArg (fun k : Key => keyIs k _) r1).trans e1)) j1, .cons k1 j2, fun m => (List.mem_append.mp m).elim k2 j3⟩
end
end
/-- what repr can show, and how -/
def kRepr : List D → Option D
  | [d] => if d.okP = true ∧ d.pr.showable = true ∧ d.pr.shown.length ≤ sizeLine ∧ d.pr.depth < 60 then some (.str d.pr.shown) else none
  | _ => none
def rRepr (C : Ctx) : List V → Hp → VK → Prop := fun vs H Q => ∃ G v d, vs = [v] ∧ Sub G H ∧ (∃ o u, H sysModules = some (.frz o u)) ∧ Rep C G v d ∧ d.okP = true ∧ d.pr.showable = true ∧ d.pr.shown.length ≤ sizeLine ∧ d.pr.depth < 60 ∧ Q (.str d.pr.shown) H
theorem call_repr {X : Cx} {C : Ctx} (hu : X.A.units + 64 < cLine) (hg : X.A.guards = some []) : CallR X (.builtin "repr") (rRepr C) := by
  intro pins s σ H xs us Q I r h
  obtain ⟨G, v, d, rfl, S, hm, rep, ok, hs, hl, hd, q⟩ := h
  obtain ⟨u, rfl, ru⟩ := r.one
  obtain ⟨as, rds, nm⟩ := rep.rd I S hm ok ru
  have fin : ∀ (h' : Heap) (t : Tok) (tk : Nat), (∀ b o, s.heap.get? b = some o → h'.get? b = some o) → EP X pins σ Q (.str d.pr.shown t) { s with heap := h', toks := tk } := fun h' t tk k => ⟨.str _, H, I.kept k, ⟨t, rfl⟩, q⟩
  have fin0 : ∀ (y : Str) (t : Tok) (tk : Nat), y = d.pr.shown → EP X pins σ Q (.str y t) { s with toks := tk } := fun y t tk e => by
    rw [e]
    exact fin s.heap t tk fun _ _ e => e
  have onRef : ∀ {a : Addr}, Reads s.heap (.ref a) d.pr as → wpAny (model X.prog X.w) X.A (call (.builtin "repr") [.ref a]) (EP X pins σ Q) X.xe s := fun {a} rd =>
    repr_of_reads' rd hs (fun _ => nm) hg (by omega) (fun _ _ e => e) (fun h' t tk k => fin h' t tk k) hl
  cases rep with
  | non =>
    cases ru
    exact PySem.P.repr_of_none (fin0 _ _ _ (by simp only [D.pr, PyData.shown]))
  | bl b =>
    cases ru
    exact PySem.P.repr_of_bool (fin0 _ _ _ (by simp only [D.pr, PyData.shown]))
  | int i =>
    obtain ⟨t, rfl⟩ := ru
    simp only [D.pr, PyData.showable, decide_eq_true_eq] at hs
    exact PySem.P.repr_of_int hs (fin0 _ _ _ (by simp only [D.pr, PyData.shown]))
  | str x =>
    obtain ⟨t, rfl⟩ := ru
    exact PySem.P.repr_of_str (fin0 _ _ _ (by simp only [D.pr, PyData.shown])) (by simpa only [D.pr, PyData.shown] using hl)
  | tup h q =>
    cases ru
    exact onRef rds
  | lst h q =>
    cases ru
    exact onRef rds
  | dct h q =>
    cases ru
    exact onRef rds
  | obj _ _ _ => simp [D.okP] at ok
  | pen _ => simp [D.okP] at ok
  | fn _ => simp [D.okP] at ok
  | ty _ => simp [D.okP] at ok
  | clo _ _ => simp [D.okP] at ok
  | lam _ _ _ => simp [D.okP] at ok
  | exc0 _ _ => simp [D.okP] at ok
  | scr _ => simp [D.okP] at ok
  | exc1 _ _ _ _ => simp [D.okP] at ok
theorem ok_repr {C : Ctx} : CallOk C (rRepr C) kRepr := by
  intro G H σ env p vs ds z Q L r ek q
  unfold kRepr at ek
  split at ek
  · rename_i d
    split at ek
    · rename_i c
      cases ek
      obtain ⟨v, rfl, rv⟩ := r.one
      exact ⟨_, v, d, rfl, L.frz_sub, L.tab.sm, rv.frz L, c.1, c.2.1, c.2.2.1, c.2.2.2, q _ G H (Alc.refl L.sub) (.str _)⟩
    · cases ek
  · cases ek
section
variable {X : Cx} {C : Ctx} {W : WX} {e : Expr} {a : AM} {pos p : Pos} {k : Nat}
/-- repr(e) -/
theorem pm_repr (hu : X.A.units + 64 < cLine) (hgd : X.A.guards = some []) (hm : X.mg "repr" = none) (ha : PA X [e] (rAB C W a)) (hg : Gl X "repr" := by rfl)
    (he : starEach [e] X.env = (false, eval e X.env) :: starEach [] X.env := by rfl) (hpl : (backTo pos (starEach [] X.env)).any (·.1) = false := by rfl) : PE X (.Call (.Name "repr" p) [e] [] pos) (rE C W (mCall kRepr a)) :=
  pm_cb ok_repr (call_repr hu hgd) hm (by with_unfolding_all rfl) ha hg (by decide) (by decide) he hpl
end
end Pu
end

section
set_option maxHeartbeats 2000000
namespace Pu
open PySem PySem.Spec PyProof.Rows L2

/-! ### exceptions: made, raised -/
/-- what is looked up of a class with an own __init__ behind ValueError -/
def oexB (K : PySem.W.Frag) (C : Addr) : Bool := (match K.lookup C with
  | some ⟨.type "type", _, .cls cd, sl⟩ => (match cd.mro, sl.toList with
    | .ref C' :: bm, [_, _, _, _, some (.builtin n), _] => C' == C && (n == "ValueError.__new__" && (!cd.hasDel && (cd.hasDict && PySem.HandSPX.refsVE bm)))
    | _, _ => false)
  | _ => false) && (He.eqO (PySem.W.findIn K (.ref C) "__setattr__") (some (some (.builtin "object.__setattr__"))) && (decide (PySem.W.subIn K (.ref C) (.type "BaseException") = some true) && (decide (PySem.W.typeIn K (.ref C) = some (.type "type")) && PySem.W.keepIn K (.ref C))))
theorem oexB_ok {K : PySem.W.Frag} {C : Addr} (h : oexB K C = true) : OexC K C := by
  unfold oexB at h
  rw [Bool.and_eq_true, Bool.and_eq_true, Bool.and_eq_true, Bool.and_eq_true, decide_eq_true_eq, decide_eq_true_eq] at h
  obtain ⟨h1, h2, h3, h4, h5⟩ := h
  refine ⟨?_, He.eqO_ok h2, h3, h4, h5⟩
  split at h1
  · rename_i dd cd sl ho
    split at h1
    · rename_i C' bm k0 k1 k2 k3 n k5 hm hs
      rw [Bool.and_eq_true, Bool.and_eq_true, Bool.and_eq_true, Bool.and_eq_true, beq_iff_eq, beq_iff_eq, Bool.not_eq_true'] at h1
      obtain ⟨e1, e2, e3, e4, e5⟩ := h1
      obtain ⟨nm, bs, mro, ns, qn, hd, sn, sub, ab, col, del⟩ := cd
      obtain ⟨l⟩ := sl
      simp only at hm hs e3 e4
      subst hm hs e1 e2 e3 e4
      exact ⟨nm, qn, ns, bs, bm, sn, sub, ab, col, dd, k0, k1, k2, k3, k5, ho, e5⟩
    · cases h1
  · cases h1
/-- an own __init__ that keeps its arguments as fields ns -/
def spI (K : PySem.W.Frag) (cA : Addr) (ns : List Str) : Sp := fun vs H Q _ => ∃ a ws, vs = .ref a :: ws ∧ ws.length = ns.length ∧ OexC K cA ∧ (∀ f ∈ ns, PySem.W.findIn K (.ref cA) f = some none) ∧ H a = some (exo a cA none) ∧
  ∀ dx, H dx = none → dx ≠ a → Q .non (upd (upd H dx (exd dx (ns.zip ws).reverse)) a (exo a cA (some dx)))
theorem spI_len {K : PySem.W.Frag} {cA : Addr} {ns : List Str} {vs : List V} {H : Hp} {Q : VK} {E : XK} (h : spI K cA ns vs H Q E) : vs.length = ("self" :: ns : List Str).length := by
  obtain ⟨a, ws, rfl, h, _⟩ := h
  rw [List.length_cons, List.length_cons, h]
def tI1 (K : PySem.W.Frag) (f : Str) (i : Nat) : TS := tOst K f (tVar 0) (tVar i)
theorem upd2 {H : Hp} {dx a : Addr} {e1 e2 x : HO} (n : dx ≠ a) : upd (upd (upd H dx e1) a x) dx e2 = upd (upd H dx e2) a x := by
  funext b
  by_cases h1 : b = dx
  · subst h1
    rw [upd_same, upd_ne n, upd_same]
  · rw [upd_ne h1]
    by_cases h2 : b = a
    · subst h2
      rw [upd_same, upd_same]
    · rw [upd_ne h2, upd_ne h2, upd_ne h1, upd_ne h1]
theorem init1 {K : PySem.W.Frag} {cA : Addr} {N : List Str} {f1 : Str} {vs : List V} {H : Hp} {Q : VK} {E : XK} (h : spI K cA [f1] vs H Q E) : tI1 K f1 1 { nx := fun _ H' => Q .non H', rt := Q } (L2.start N vs) H := by
  obtain ⟨a, ws, rfl, hl, T, hf, ha, hq⟩ := h
  match ws, hl with
  | [y1], _ =>
    exact ⟨y1, rfl, .ref a, rfl, a, cA, rfl, T, hf f1 (by simp), .inl ⟨ha, fun dx h1 h2 => hq dx h1 h2⟩⟩
theorem init2 {K : PySem.W.Frag} {cA : Addr} {N : List Str} {f1 f2 : Str} {vs : List V} {H : Hp} {Q : VK} {E : XK} (h : spI K cA [f1, f2] vs H Q E) : tSeq (tI1 K f1 1) (tI1 K f2 2) { nx := fun _ H' => Q .non H', rt := Q } (L2.start N vs) H := by
  obtain ⟨a, ws, rfl, hl, T, hf, ha, hq⟩ := h
  match ws, hl with
  | [y1, y2], _ =>
    refine ⟨y1, rfl, .ref a, rfl, a, cA, rfl, T, hf f1 (by simp), .inl ⟨ha, fun dx h1 h2 => ?_⟩⟩
    refine ⟨y2, rfl, .ref a, rfl, a, cA, rfl, T, hf f2 (by simp), .inr ⟨dx, [(f1, y1)], upd_same, (upd_ne h2).trans upd_same, by simp, ?_⟩⟩
    show Q .non _
    rw [upd2 h2]
    exact hq dx h1 h2
theorem init3 {K : PySem.W.Frag} {cA : Addr} {N : List Str} {f1 f2 f3 : Str} {vs : List V} {H : Hp} {Q : VK} {E : XK} (h : spI K cA [f1, f2, f3] vs H Q E) : tSeq (tI1 K f1 1) (tSeq (tI1 K f2 2) (tI1 K f3 3)) { nx := fun _ H' => Q .non H', rt := Q } (L2.start N vs) H := by
  obtain ⟨a, ws, rfl, hl, T, hf, ha, hq⟩ := h
  match ws, hl with
  | [y1, y2, y3], _ =>
    refine ⟨y1, rfl, .ref a, rfl, a, cA, rfl, T, hf f1 (by simp), .inl ⟨ha, fun dx h1 h2 => ?_⟩⟩
    refine ⟨y2, rfl, .ref a, rfl, a, cA, rfl, T, hf f2 (by simp), .inr ⟨dx, [(f1, y1)], upd_same, (upd_ne h2).trans upd_same, by simp, ?_⟩⟩
    refine ⟨y3, rfl, .ref a, rfl, a, cA, rfl, T, hf f3 (by simp), .inr ⟨dx, [(f2, y2), (f1, y1)], ?_, ?_, by simp, ?_⟩⟩
    · rw [upd2 h2]
      exact upd_same
    · rw [upd2 h2, upd_ne h2]
      exact upd_same
    · show Q .non _
      rw [upd2 h2, upd2 h2]
      exact hq dx h1 h2
/-- a class of exceptions with an own __init__ -/
structure ExcD (C : Ctx) (P : Program) (w : World) (base : Heap) (x : Str) (ns : List Str) (k : Nat) : Prop where
  ex : ∃ (cA fI : Addr) (fd : FuncData), C.mg x = some (.ref cA) ∧ OexC C.K cA ∧ (∀ f ∈ ns, PySem.W.findIn C.K (.ref cA) f = some none) ∧ PySem.W.findIn C.K (.ref cA) "__init__" = some (some (.ref fI)) ∧ PySem.W.typeIn C.K (.ref fI) = some (.type "function") ∧
    Binds C.K fd ("self" :: ns) [] ∧ FnOk P w C.K C.mg base CX0 k fI fd ("self" :: ns) (spI C.K cA ns)
/-- one without -/
structure ExcN (C : Ctx) (x : Str) : Prop where
  ex : ∃ cA : Addr, C.mg x = some (.ref cA) ∧ PySem.W.excIn C.K cA He.veBase "ValueError.__new__" = true ∧ PySem.W.keepIn C.K (.ref cA) = true ∧ PySem.W.subIn C.K (.ref cA) (.type "BaseException") = some true ∧ PySem.W.typeIn C.K (.ref cA) = some (.type "type")
def mRaise (x : Str) (ns : List Str) (a : AM) : SM := fun env p => (a env p).res env fun ds q => if ds.length = ns.length then .err ⟨x, (ns.zip ds).reverse⟩ env q else .bad
def mRaise0 (x : Str) : SM := fun env p => .err ⟨x, []⟩ env p
theorem RepF.append {C : Ctx} {G : Hp} : ∀ {vs ws : List (Str × V)} {ds es : List (Str × D)}, RepF C G vs ds → RepF C G ws es → RepF C G (vs ++ ws) (ds ++ es)
  | _, _, _, _, .nil, s => s
  | _, _, _, _, .cons h t, s => .cons h (RepF.append t s)
theorem RepF.rev {C : Ctx} {G : Hp} : ∀ {vs : List (Str × V)} {ds : List (Str × D)}, RepF C G vs ds → RepF C G vs.reverse ds.reverse
  | _, _, .nil => .nil
  | _, _, .cons h t => by
    rw [List.reverse_cons, List.reverse_cons]
    exact (RepF.rev t).append (.cons h .nil)
theorem RepF.zip {C : Ctx} {G : Hp} : ∀ {ns : List Str} {vs : List V} {ds : List D}, Reps C G vs ds → RepF C G (ns.zip vs) (ns.zip ds)
  | [], _, _, _ => .nil
  | _ :: _, _, _, .nil => .nil
  | _ :: _, _, _, .cons h t => .cons h (RepF.zip t)
theorem del_upd {H : Hp} {a dx : Addr} {x y z : HO} (h : H a = none) (n : dx ≠ a) : upd (del (upd (upd (upd H a x) dx y) a z) a) dx (.xd fs) = upd H dx (.xd fs) := by
  funext b
  by_cases h1 : b = dx
  · subst h1
    rw [upd_same, upd_same]
  · rw [upd_ne h1, upd_ne h1]
    by_cases h2 : b = a
    · subst h2
      rw [del_same, h]
    · rw [del_ne h2, upd_ne h2, upd_ne h1, upd_ne h2]
section
variable {X : Cx} {C : Ctx} {W : WX} {gd : Bool} {k j : Nat} {x : Str} {ns : List Str} {e : Expr} {es : List Expr} {a : AM} {p pos pos' : Pos}
/-- raise X(e, ..) -/
theorem sm_raise (w : Wk X C W gd j) (hc : X.calm = true) (F : ExcD C X.prog X.w X.base x ns k) (hk : k + 1 ≤ j) (ha : PA X (e :: es) (rA C W a)) (hg : Gl X x := by rfl) (hn : ns.length ≤ 900 := by decide)
    (hdb : (x == ("__debug__" : Str)) = false := by decide) (he : starEach (e :: es) X.env = (false, eval e X.env) :: starEach es X.env := by rfl) (hpl : (backTo pos (starEach es X.env)).any (·.1) = false := by rfl) :
    PS X (.Raise (some (.Call (.Name x p) (e :: es) [] pos)) none pos') (rS C W (mRaise x ns a)) := by
  obtain ⟨cA, fI, fd, h1, h2, h3, h4, h5, h6, h7⟩ := F.ex
  rw [w.K] at h2 h3 h4 h5 h6 h7
  rw [w.mg] at h1 h7
  refine (ps_raise hc w.tk (pmk_oex h2 h4 h5 h7 (w.room.mono hk) h6 .nil pass0 hg h1 ha hdb he hpl)).of fun D σ H ⟨G0, H0, G, env, q, S, o⟩ => ?_
  refine ⟨G, env, q, S.l, (o.out S).imp (fun ds q1 z vs G1 H1 x1 y1 r1 => ?_) fun _ _ z => z⟩
  split at z
  · rename_i hl
    have lv : vs.length = ns.length := by rw [r1.length, hl]
    have S1 := S.step x1 y1
    refine ⟨by omega, fun b hb => ⟨b, vs, by rw [List.append_nil], lv, h2, h3, upd_same, fun dx d1 d2 => ⟨rfl, dx, (ns.zip vs).reverse, upd_same, (upd_ne d2).trans upd_same, ?_, ?_⟩⟩⟩
    · rw [upd_ne d2] at d1
      exact d1
    · have d3 : H1 dx = none := by
        rw [upd_ne d2] at d1
        exact d1
      rw [del_upd hb d2]
      have al : Alc G1 H1 (upd G1 dx (.xd (ns.zip vs).reverse)) (upd H1 dx (.xd (ns.zip vs).reverse)) := Alc.put x1.sub d3
      exact z _ _ _ _ _ (S1.step (S1.l.ext al) (y1.alc al)) (x1.gro.trans al.gro) ⟨cA, by rw [w.mg]; exact h1, rfl, .inr ⟨dx, _, rfl, upd_same, (RepF.zip (r1.mono al.gro)).rev⟩⟩
  · exact z.elim
/-- X(), X without own __init__ -/
theorem pmk_own0 {cA : Addr} (q : PySem.W.excIn X.K cA He.veBase "ValueError.__new__" = true) (gC : X.mg x = some (.ref cA)) (kC : PySem.W.keepIn X.K (.ref cA) = true) (r : Raises X (.ref cA)) (hg : Gl X x) (hdb : (x == ("__debug__" : Str)) = false := by decide) :
    L2.PMk X (.Call (.Name x p) [] [] pos) (fun _ H Q => Q (.ref cA) none H) := by
  intro pins s σ H Q I h
  refine wpAny_Call_Name_kw (ld_glob I hg gC ?_ hdb)
  refine PySem.W.callWith_K0 I.kIn kC ?_
  obtain ⟨bm, N, nm, qn, bs, hdct, sn, sub, ab, col, dd, k0, k1, k2, k3, k5, mN, hC, hN, hni, T⟩ := exc_obj I.kIn q
  refine wpAny_call_exc_subT F.excBase_ValueError T hC hN hni (fun h' e hm => ?_) (Nat.zero_le _)
  exact mk_of I hm r h (I.hok.gone hm.new)
/-- raise X() -/
theorem sm_raise0 (w : Wk X C W gd j) (hc : X.calm = true) (F : ExcN C x) (hg : Gl X x := by rfl) (hdb : (x == ("__debug__" : Str)) = false := by decide) : PS X (.Raise (some (.Call (.Name x p) [] [] pos)) none pos') (rS C W (mRaise0 x)) := by
  obtain ⟨cA, h1, h2, h3, h4, h5⟩ := F.ex
  rw [w.K] at h2 h3 h4 h5
  rw [w.mg] at h1
  refine (ps_raise hc w.tk (pmk_own0 h2 h1 h3 (raises_own h4 h5) hg hdb)).of fun D σ H ⟨G0, H0, G, env, q, S, o⟩ => ?_
  exact o _ _ σ G H S (Sub.refl _) ⟨cA, by rw [w.mg]; exact h1, rfl, .inl ⟨rfl, rfl⟩⟩
end
end Pu
end

section
set_option maxHeartbeats 2000000
namespace Pu
open PySem PySem.Spec PyProof.Rows L2

/-! ### isinstance; fields of a caught error -/
/-- the caught error, as the context bears it -/
structure Hot (Y : Cx) (C : Ctx) : Prop where
  at_ : ∀ a cls dd, C.ex = some (a, cls, dd) → ∃ oe, (a, oe) ∈ Y.pn ∧ Zc cls dd oe ∧ ∃ vs, oe.data = .fields vs
theorem Hot.none {Y : Cx} {C : Ctx} (h : C.ex = none) : Hot Y C := ⟨fun a cls dd e => by
  rw [h] at e
  cases e⟩
/-- a value's class, by name -/
def D.tag : D → Option (Sum String Str)
  | .non => some (.inl "NoneType")
  | .bl _ => some (.inl "bool")
  | .int _ => some (.inl "int")
  | .str _ => some (.inl "str")
  | .tup _ => some (.inl "tuple")
  | .lst _ => some (.inl "list")
  | .dct _ => some (.inl "dict")
  | .obj c _ => some (.inr c)
  | .exc c _ => some (.inr c)
  | _ => none
def D.isExc : D → Bool
  | .exc _ _ => true
  | _ => false
def D.isObj : D → Bool
  | .obj _ _ => true
  | _ => false
inductive TagV (C : Ctx) : Sum String Str → Value → Prop where
  | ty (n : String) : TagV C (.inl n) (.type n)
  | own {c : Str} {cA : Addr} (h : C.mg c = some (.ref cA)) : TagV C (.inr c) (.ref cA)
inductive ClsD (C : Ctx) : D → V → Value → Prop where
  | ty (n : String) : ClsD C (.ty n) (.ty n) (.type n)
  | own {c : Str} {cA : Addr} (h : C.mg c = some (.ref cA)) : ClsD C (.fn c) (.ref cA) (.ref cA)
abbrev Ask := Sum String Str → D → Option Bool
structure AskOk (C : Ctx) (ask : Ask) : Prop where
  ok : ∀ t k b, ask t k = some b → ∀ tv, TagV C t tv → ∀ v u, ClsD C k v u → PySem.W.kitOne C.K tv u = some b
/-- what must be known of an own class whose instances are asked -/
structure InsC (K : PySem.W.Frag) (cA : Addr) : Prop where
  cls : Cls K cA
  ha : PySem.W.findIn K (.ref cA) "__class__" = some (some (.builtin "object.__class__"))
  hn : PySem.W.specialIn K (.builtin "object.__class__") "__get__" = some (some (.builtin "getset_descriptor.__get__"))
  ht : PySem.W.takesIn K (.builtin "object.__class__") = some true
  hm : PySem.W.mroIn K cA (.type "object") = some true
def insB (K : PySem.W.Frag) (cA : Addr) : Bool := He.eqO (PySem.W.findIn K (.ref cA) "__class__") (some (some (.builtin "object.__class__"))) && (He.eqO (PySem.W.specialIn K (.builtin "object.__class__") "__get__") (some (some (.builtin "getset_descriptor.__get__"))) && (decide (PySem.W.takesIn K (.builtin "object.__class__") = some true) && decide (PySem.W.mroIn K cA (.type "object") = some true)))
theorem insB_ok {K : PySem.W.Frag} {cA : Addr} (c : Cls K cA) (h : insB K cA = true) : InsC K cA := by
  unfold insB at h
  rw [Bool.and_eq_true, Bool.and_eq_true, Bool.and_eq_true, decide_eq_true_eq, decide_eq_true_eq] at h
  exact ⟨c, He.eqO_ok h.1, He.eqO_ok h.2.1, h.2.2.1, h.2.2.2⟩
/-- .. of a class of errors -/
structure ExIs (K : PySem.W.Frag) (cA : Addr) : Prop where
  cl : (PySem.W.clsIn K cA).isSome = true
  ga : PySem.W.findIn K (.ref cA) "__getattribute__" = some (some (.builtin "BaseException.__getattribute__"))
  gt : PySem.W.findIn K (.ref cA) "__getattr__" = some none
  sub : PySem.W.subIn K (.ref cA) (.type "BaseException") = some true
  hd : PySem.W.hasDictIn K cA = true
  ha : PySem.W.findIn K (.ref cA) "__class__" = some (some (.builtin "object.__class__"))
  hn : PySem.W.specialIn K (.builtin "object.__class__") "__get__" = some (some (.builtin "getset_descriptor.__get__"))
  ht : PySem.W.takesIn K (.builtin "object.__class__") = some true
  hm : PySem.W.mroIn K cA (.type "object") = some true
def exIsB (K : PySem.W.Frag) (cA : Addr) : Bool := (PySem.W.clsIn K cA).isSome && (He.eqO (PySem.W.findIn K (.ref cA) "__getattribute__") (some (some (.builtin "BaseException.__getattribute__"))) && (He.eqO (PySem.W.findIn K (.ref cA) "__getattr__") (some none) && (decide (PySem.W.subIn K (.ref cA) (.type "BaseException") = some true) && (PySem.W.hasDictIn K cA && insB K cA))))
theorem exIsB_ok {K : PySem.W.Frag} {cA : Addr} (h : exIsB K cA = true) : ExIs K cA := by
  unfold exIsB insB at h
  rw [Bool.and_eq_true, Bool.and_eq_true, Bool.and_eq_true, Bool.and_eq_true, Bool.and_eq_true, Bool.and_eq_true, Bool.and_eq_true, Bool.and_eq_true, decide_eq_true_eq, decide_eq_true_eq, decide_eq_true_eq] at h
  exact ⟨h.1, He.eqO_ok h.2.1, He.eqO_ok h.2.2.1, h.2.2.2.1, h.2.2.2.2.1, He.eqO_ok h.2.2.2.2.2.1, He.eqO_ok h.2.2.2.2.2.2.1, h.2.2.2.2.2.2.2.1, h.2.2.2.2.2.2.2.2⟩
/-- the classes of objects and of errors that the proof speaks of -/
structure Clss (C : Ctx) (os es : List Str) : Prop where
  obj : ∀ c ∈ os, ∀ cA, C.mg c = some (.ref cA) → InsC C.K cA
  exc : ∀ c ∈ es, ∀ cA, C.mg c = some (.ref cA) → ExIs C.K cA
/-- the caught error stands as such in the heap -/
theorem exc_inst {Y : Cx} {C : Ctx} {pins : List (Addr × Obj)} {σ : St} {H : Hp} {s : Shared} {a cA : Addr} {dd : Option Addr} (hot : Hot Y C) (I : Inv Y pins σ H s) (h : C.ex = some (a, .ref cA, dd)) (hd : ∀ x, dd = some x → ∃ fvs, H x = some (.xd fvs)) :
    ∃ oe od, PySem.W.InstAt s.heap a oe cA od ∧ ∀ x fvs, dd = some x → H x = some (.xd fvs) → ∃ o, od = some o ∧ ∀ f, ∃ r, PySem.W.lookIn f o = some r ∧ RelO (fvs.lookup f) r := by
  obtain ⟨oe, hp, ⟨z1, z2⟩, vs, hv⟩ := hot.at_ a _ dd h
  have P := (I.pin (a, oe) (List.mem_append_left _ hp)).1
  have nc : PySem.W.notCls oe = true := by
    unfold PySem.W.notCls
    rw [hv] <;> rfl
  cases dd with
  | none => exact ⟨oe, none, ⟨P, z1, nc, by rw [z2] <;> trivial⟩, fun x fvs e => by cases e⟩
  | some x =>
    obtain ⟨fvs, hx⟩ := hd x rfl
    obtain ⟨mA, hns, hr⟩ := (show ObjOk Y.prog Y.w H s.heap x (.xd fvs) from I.hok x _ hx)
    obtain ⟨od, ho, hl⟩ := lookIn_ns hns
    refine ⟨oe, some od, ⟨P, z1, nc, by rw [z2]; exact ho⟩, fun x' fvs' e1 e2 => ?_⟩
    cases e1
    rw [hx] at e2
    cases e2
    exact ⟨od, rfl, fun f => ⟨mA f, hl f, hr f⟩⟩

def kIsi (os es : List Str) (ask : Ask) : List D → Option D
  | [d, k] => (match d with
    | .obj c _ => if c ∈ os then (ask (.inr c) k).map D.bl else none
    | .exc c _ => if c ∈ es then (ask (.inr c) k).map D.bl else none
    | d => match d.tag with
      | some t => (ask t k).map D.bl
      | none => none)
  | _ => none
/-- what isinstance is asked: the value's class is known, one class -/
def rInst (C : Ctx) (Y : Cx) : List V → Hp → VK → Prop := fun vs H Q => (∃ v c tv u b, vs = [v, c] ∧ ClsV c u ∧ TyX C.K H v tv ∧ PySem.W.kitOne C.K tv u = some b ∧ Q (.bl b) H) ∨
  ∃ a cA dd c u b, vs = [.ref a, c] ∧ C.ex = some (a, .ref cA, dd) ∧ (∀ x, dd = some x → ∃ fvs, H x = some (.xd fvs)) ∧ ExIs C.K cA ∧ ClsV c u ∧ PySem.W.kitOne C.K (.ref cA) u = some b ∧ Q (.bl b) H
theorem call_isA {Y : Cx} {C : Ctx} (hK : C.K = Y.K) (hot : Hot Y C) : CallR Y (.builtin "isinstance") (rInst C Y) := by
  intro pins s σ H xs us Q I r h
  rcases h with ⟨v, c, tv, u, b, rfl, h1, h2, h3, q⟩ | ⟨a, cA, dd, c, u, b, rfl, h1, h2, h3, h4, h5, q⟩
  · rw [hK] at h2 h3
    exact call_isi pins s σ H _ us Q I r ⟨v, c, tv, u, b, rfl, h1, h2, h3, q⟩
  · obtain ⟨oe, od, J, _⟩ := exc_inst hot I h1 h2
    obtain ⟨u1, u2, rfl, r1, r2⟩ := r.two
    cases (show u1 = Value.ref a from r1)
    have e2 := h4.eq r2
    subst e2
    rw [hK] at h3 h5
    exact PySem.W.kia_one (PySem.W.kitx_exc h3.cl h3.ga h3.gt h3.sub h3.ha h3.hn h3.ht h3.hm) I.kIn J h5 (fun z => nomatch z) fun tk => ⟨.bl b, H, I.tok tk, rfl, q⟩
theorem TyX.of {C : Ctx} {G H : Hp} (S : Sub G H) {v : V} {d : D} {t : Sum String Str} (r : Rep C G v d) (n1 : d.isObj = false) (n2 : d.isExc = false) (e : d.tag = some t) : ∃ tv, TagV C t tv ∧ TyX C.K H v tv := by
  cases r with
  | non => cases e; exact ⟨_, .ty _, .base .non⟩
  | bl b => cases e; exact ⟨_, .ty _, .base (.bl b)⟩
  | int i => cases e; exact ⟨_, .ty _, .base (.int i)⟩
  | str x => cases e; exact ⟨_, .ty _, .base (.str x)⟩
  | tup h _ => cases e; exact ⟨_, .ty _, .base (.tup (S _ _ h))⟩
  | lst h _ => cases e; exact ⟨_, .ty _, .base (.lst (S _ _ h))⟩
  | dct h _ => cases e; exact ⟨_, .ty _, .base (.dK (S _ _ h))⟩
  | obj m h r => cases n1
  | pen h => cases e
  | fn h => cases e
  | ty n => cases e
  | clo h s0 => cases e
  | lam _ _ _ => cases e
  | exc0 h m => cases n2
  | scr h => cases e
  | exc1 h m g r => cases n2
theorem ClsD.of {C : Ctx} {G : Hp} {v : V} {k : D} (r : Rep C G v k) {ask : Ask} {t : Sum String Str} {b : Bool} (hk : (∃ n, k = .ty n) ∨ ∃ c, k = .fn c) : ∃ u, ClsV v u ∧ ClsD C k v u := by
  rcases hk with ⟨n, rfl⟩ | ⟨c, rfl⟩
  · cases r
    exact ⟨_, .ty n, .ty n⟩
  · cases r with
    | fn h => exact ⟨_, .own _, .own h⟩
/-- asked only of classes -/
def AskC (ask : Ask) : Prop := ∀ t k b, ask t k = some b → (∃ n, k = .ty n) ∨ ∃ c, k = .fn c
theorem BReps.two' {C : Ctx} {G : Hp} {σ : St} {env : Env} {vs : List V} {d e : D} (h : BReps C G σ env vs [d, e]) : ∃ v w, vs = [v, w] ∧ BRep C G σ env v d ∧ BRep C G σ env w e := by
  cases h with
  | cons h t =>
    cases t with
    | cons h2 t =>
      cases t
      exact ⟨_, _, rfl, h, h2⟩
theorem ok_isA {C : Ctx} {Y : Cx} {os es : List Str} {ask : Ask} (A : AskOk C ask) (AC : AskC ask) (K : Clss C os es) : CallOk C (rInst C Y) (kIsi os es ask) := by
  intro G H σ env p vs ds z Q L r ek q
  unfold kIsi at ek
  split at ek
  · rename_i d k
    obtain ⟨v, w, rfl, rv, rw'⟩ := r.two'
    have fr := rv.frz L
    have frk := rw'.frz L
    have fin : ∀ {t b}, ask t k = some b → ∃ u, ClsV w u ∧ ClsD C k w u := fun {t b} e => ClsD.of (ask := ask) (t := t) (b := b) frk (AC _ _ _ e)
    split at ek
    · rename_i c fs
      split at ek
      · rename_i hc
        cases ea : ask (.inr c) k with
        | none =>
          rw [ea] at ek
          cases ek
        | some b =>
          rw [ea] at ek
          cases ek
          obtain ⟨u, h1, h2⟩ := fin ea
          cases fr with
          | obj m h rr =>
            have ic := K.obj c hc _ m
            exact .inl ⟨_, _, _, u, b, rfl, h1, .base (.ins (L.frz_sub _ _ h) ic.cls ic.ha ic.hn ic.ht ic.hm), A.ok _ _ _ ea _ (.own m) _ _ h2, q _ G H (Alc.refl L.sub) (.bl _)⟩
      · cases ek
    · rename_i c fs
      split at ek
      · rename_i hc
        cases ea : ask (.inr c) k with
        | none =>
          rw [ea] at ek
          cases ek
        | some b =>
          rw [ea] at ek
          cases ek
          obtain ⟨u, h1, h2⟩ := fin ea
          cases fr with
          | exc0 h m => exact .inr ⟨_, _, _, _, u, b, rfl, h, (fun x e => by cases e), K.exc c hc _ m, h1, A.ok _ _ _ ea _ (.own m) _ _ h2, q _ G H (Alc.refl L.sub) (.bl _)⟩
          | exc1 h m g rr => exact .inr ⟨_, _, _, _, u, b, rfl, h, (fun x e => by cases e; exact ⟨_, L.frz_sub _ _ g⟩), K.exc c hc _ m, h1, A.ok _ _ _ ea _ (.own m) _ _ h2, q _ G H (Alc.refl L.sub) (.bl _)⟩
      · cases ek
    · rename_i n1 n2
      split at ek
      · rename_i t ht
        cases ea : ask t k with
        | none =>
          rw [ea] at ek
          cases ek
        | some b =>
          rw [ea] at ek
          cases ek
          obtain ⟨u, h1, h2⟩ := fin ea
          have m1 : d.isObj = false := by
            cases d <;> first | rfl | exact absurd rfl (n1 _ _)
          have m2 : d.isExc = false := by
            cases d <;> first | rfl | exact absurd rfl (n2 _ _)
          obtain ⟨tv, t1, t2⟩ := TyX.of L.frz_sub fr m1 m2 ht
          exact .inl ⟨v, w, tv, u, b, rfl, h1, t2, A.ok _ _ _ ea _ t1 _ _ h2, q _ G H (Alc.refl L.sub) (.bl _)⟩
      · cases ek
  · cases ek
section
variable {X : Cx} {C : Ctx} {W : WX} {e : Expr} {es' : List Expr} {a : AM} {m : EM} {pos p : Pos} {os es : List Str} {ask : Ask}
/-- isinstance(e, c) -/
theorem pm_isi (hK : C.K = X.K) (hot : Hot X C) (A : AskOk C ask) (AC : AskC ask) (K : Clss C os es) (hm : X.mg "isinstance" = none) (ha : PA X (e :: es') (rAB C W a)) (hg : Gl X "isinstance" := by rfl)
    (he : starEach (e :: es') X.env = (false, eval e X.env) :: starEach es' X.env := by rfl) (hpl : (backTo pos (starEach es' X.env)).any (·.1) = false := by rfl) : PE X (.Call (.Name "isinstance" p) (e :: es') [] pos) (rE C W (mCall (kIsi os es ask) a)) :=
  pm_cb (ok_isA A AC K) (call_isA hK hot) hm (by with_unfolding_all rfl) ha hg (by decide) (by decide) he hpl
/-- a class of the module, a built-in class, as a value -/
theorem pm_gty {x : Str} {n : String} (hm : X.mg x = none) (hv : bootBuiltins x = some (.type n)) (hg : Gl X x := by rfl) (hn : x ≠ "__name__" := by decide) (hd : (x == ("__debug__" : Str)) = false := by decide) : PE X (.Name x p) (rE C W (mC (.ty n))) :=
  (pe_bltn (v := .ty n) hg hm hv rfl hn hd).of (rE_const rfl fun _ => .ty _)
/-- e.f, e the caught error -/
def mExf (es : List Str) (f : Str) (m : EM) : EM := fun env p => (m env p).bind fun d q => match d with
  | .exc c fs => if c ∈ es then (match fs.lookup f with
    | some z => .ok z q
    | none => .bad) else .bad
  | _ => .bad
theorem pm_exf {f : Str} (hK : C.K = X.K) (hot : Hot X C) (K : Clss C os es) (hf : ∀ c ∈ es, ∀ cA, C.mg c = some (.ref cA) → PySem.W.findIn C.K (.ref cA) f = some none) (h : PE X e (rE C W m)) (hb : attributeBase e f X.env (eval e X.env) = eval e X.env := by rfl) : PE X (.Attribute e f pos) (rE C W (mExf es f m)) := by
  refine ⟨fun pins s σ H Q I ⟨G, env, p, L, o⟩ => ?_⟩
  have o2 := o.bind
  refine attr_of hb (thn (h.run pins s σ H (fun x H1 => ∃ a cA x1 fvs v, x = .ref a ∧ C.ex = some (a, .ref cA, some x1) ∧ H1 x1 = some (.xd fvs) ∧ ExIs C.K cA ∧ PySem.W.findIn C.K (.ref cA) f = some none ∧ fvs.lookup f = some v ∧ Q v H1) I ⟨G, env, p, L, o2.imp (fun d q z v G1 H1 x1 y1 r1 => ?_) fun _ _ z => z⟩) fun u s1 hh => ?_)
  · split at z
    · rename_i c fs
      split at z
      · rename_i hc
        cases el : fs.lookup f with
        | none =>
          rw [el] at z
          exact z.elim
        | some w =>
          rw [el] at z
          cases r1 with
          | exc0 h m => cases el
          | exc1 h m g rr =>
            obtain ⟨v, k1, k2⟩ := rr.at el
            exact ⟨_, _, _, _, v, rfl, h, x1.sub _ _ g, K.exc c hc _ m, hf c hc _ m, k1, z v G1 H1 x1 y1 k2⟩
      · exact z.elim
    · exact z.elim
  · obtain ⟨x, H1, I1, rx, a, cA, x1, fvs, v, rfl, h1, h2, h3, h4, h5, q⟩ := hh
    cases (show u = Value.ref a from rx)
    obtain ⟨oe, od, J, hl⟩ := exc_inst hot I1 h1 (fun x' e => by cases e; exact ⟨fvs, h2⟩)
    obtain ⟨o', rfl, hlk⟩ := hl x1 fvs rfl h2
    obtain ⟨r, l1, l2⟩ := hlk f
    rw [h5] at l2
    obtain ⟨w, rfl, rw'⟩ : ∃ w, r = some w ∧ RelV v w := by
      cases r with
      | none => exact l2.elim
      | some w => exact ⟨w, rfl, l2⟩
    rw [hK] at h3 h4
    exact HandSPX.exc_get I1.kIn J h3.ga h3.gt h3.sub (PySem.W.findObj_own h3.hd h4 rfl l1) (handed_of rw') ⟨v, H1, I1.tok _, rw', q⟩
end
end Pu
end

section
set_option maxHeartbeats 2000000
namespace Pu
open PySem PySem.Spec PyProof.Rows L2

/-! ### where an error is being handled: defs called there -/
/-- the context of a suite, of a def called there -/
structure Wh (X : Cx) (C : Ctx) (k : Nat) : Prop where
  K : C.K = X.K
  mg : C.mg = X.mg
  room : L2H.RoomH k X.A
  gd : X.A.guards = some []
  hot : Hot X C
  is : ∃ v, C.ex = some v
theorem Wh.hu {X : Cx} {C : Ctx} {k : Nat} (w : Wh X C k) : X.A.units + 64 < cLine := by
  have h := w.room.un
  omega
/-- a promise of a def called there: p is the caught error's object -/
structure FnQ (P : Program) (w : World) (K : PySem.W.Frag) (mg : Str → Option Value) (base : Heap) (CX : CXT) (k : Nat) (f : Addr) (fd : FuncData) (ps : List Str) (sp : Addr × Obj → Sp) : Prop where
  len : ∀ p vs H Q E, sp p vs H Q E → vs.length = ps.length
  run : ∀ (A : Around) (outer : List PySem.Env) (s : Shared) (H : Hp) (args : Args) (us : List Value) (vs : List V) (Q : VK) (E : XK) (p : Addr × Obj), L2H.RoomH k A → A.guards = some [] → L2H.PinOk outer H s p → Env0 P w K mg base A outer s H → BindsTo s fd args (ps.zip us) → Vals vs us → sp p vs H Q E →
    codeAny (model P w) A (.call (.ref f) args) (CR CX outer P w H s Q E) s
/-- the same, told by a mirror, under a context that bears the error -/
def spQ (C : Ctx) (m : FM) (n : Nat) : Addr × Obj → Sp := fun p vs H Q E => (∃ cls dd, C.ex = some (p.1, cls, dd) ∧ Zc cls dd p.2 ∧ ∃ us, p.2.data = .fields us) ∧ spM C m n vs H Q E
def mDefQ (n : Nat) (m : SM) : FM := fun ds p => (mDef n m ds p).ne
theorem fn_hot {C : Ctx} {P : Program} {w : World} {base : Heap} {k : Nat} {f : Addr} {name qual : Str} {params : Arguments} {body : List Stmt} {scope : Scope} {dV kV doc pm cdv ct oc : Value} {an od : Option Addr}
    {osl : Array (Option Value)} {N ps : List Str} {m : SM} (lk : C.K.lookup f = some ⟨oc, od, .func (PySem.W.fnOf name qual params body scope dV kV doc pm an cdv ct), osl⟩) (hcd : PySem.W.codeIn C.K cdv qual = true) (S : FnScope N ps scope)
    (hb : ∀ (A : Around) (outer : List PySem.Env) (s : Shared) (H : Hp) (E : XK) (p : Addr × Obj), Wh (L2H.cxH (L2.CX P w) P w C.K C.mg base N qual scope f cdv A outer s H E p) C k → PSs (L2H.cxH (L2.CX P w) P w C.K C.mg base N qual scope f cdv A outer s H E p) body (rS C W0 m)) :
    FnQ P w C.K C.mg base (L2.CX P w) (k + 1) f (PySem.W.fnOf name qual params body scope dV kV doc pm an cdv ct) ps (spQ C (mDefQ N.length m) ps.length) := by
  refine ⟨fun p vs H Q E ⟨_, _, _, _, h, _⟩ => h, fun A outer s H args us vs Q E p hr hg hp e0 hbi r hsp => ?_⟩
  obtain ⟨⟨cls, dd, x1, x2, x3⟩, G, ds, pn, hl, hs, ht, hn, hy, hr', ho⟩ := hsp
  have KX : C.K.In s.heap := e0.mod.kin.keeps fun b o e => (e0.bs b o e).1
  have lim : s.heap.NoLimit := e0.mod.nolimit.keeps fun b o e => (e0.bs b o e).1
  have kinds : ∀ y ∈ ps.zip us, scope.names.lookup y.1 = some .local ∨ (scope.names.lookup y.1 = some .cell ∧ ((cellsFrom (s.heap.objs.size + 1) scope.names []).lookup y.1).isSome = true) := fun y hy => by
    have hy1 : (y.1, y.2) ∈ ps.zip us := hy
    rcases S.par y.1 (List.of_mem_zip hy1).1 with q | q
    · exact .inl q
    · exact .inr ⟨q, PySem.W.cellsFrom_some _ _ _ (.inl q)⟩
  refine codeAny_call_function hr.depth (KX _ _ lk) rfl S.co S.gen rfl (PySem.W.codeRec_of KX hcd) (hbi _ _ _ _ ?_)
  refine wpAny_newFunctionEnv_cells S.kind kinds fun env he s1 x => ?_
  subst he
  refine ⟨lim.keeps x.toInCall.keep, codeAny_func ?_⟩
  have I := L2H.inv_startH (CX := L2.CX P w) (E := E) (f := f) (cd := cdv) (qual := qual) S hp e0 hl r x
  have wh : Wh (L2H.cxH (L2.CX P w) P w C.K C.mg base N qual scope f cdv A outer s H E p) C k := ⟨rfl, rfl, hr.deeper _, hg, ⟨fun a c d e => by
    rw [x1] at e
    cases e
    exact ⟨p.2, List.mem_singleton.mpr rfl, x2, x3⟩⟩, _, x1⟩
  have go : rS C W0 m { nx := fun _ H' => Q .non H', rt := Q } (L2.start N vs) H := by
    refine ⟨G, H, G, env0 N.length ds, pn, start_sok hs ht hn hy hr', ?_⟩
    unfold mDefQ mDef at ho
    cases e : m (env0 N.length ds) pn with
    | next env q =>
      rw [e] at ho
      exact fun σ' G' H' S' _ => ho .non G' H' S'.x S'.l.pen .non
    | ret d q =>
      rw [e] at ho
      exact ho
    | err er env q =>
      rw [e] at ho
      exact False.elim ho
    | brk env q =>
      rw [e] at ho
      exact ho.elim
    | cnt env q =>
      rw [e] at ho
      exact ho.elim
    | bad =>
      rw [e] at ho
      exact ho.elim
  refine wpAny_mono ((hb A outer s H E p wh).run [] s1 _ H _ I go) (fun fl s' h => ?_) fun e s' h => h
  cases fl with
  | ret u =>
    obtain ⟨v, σ', H', J, rv, q⟩ := h
    exact ⟨v, H', J.os, J.bare, J.base, J.hok, rv, q⟩
  | next =>
    obtain ⟨σ', H', J, q⟩ := h
    exact ⟨.non, H', J.os, J.bare, J.base, J.hok, rfl, q⟩
  | brk => exact h.elim fun _ h => h.elim fun _ h => h.2.elim
  | cont => exact h.elim fun _ h => h.elim fun _ h => h.2.elim

/-- such a def, by its name -/
structure FnX (C : Ctx) (P : Program) (w : World) (base : Heap) (x : Str) (k n : Nat) (m : FM) : Prop where
  ex : ∃ (f : Addr) (fd : FuncData) (ps : List Str), C.mg x = some (.ref f) ∧ PySem.W.keepIn C.K (.ref f) = true ∧ Binds C.K fd ps [] ∧ ps.length = n ∧ FnQ P w C.K C.mg base (L2.CX P w) k f fd ps (spQ C m n)
section
variable {X : Cx} {C : Ctx} {W : WX} {e : Expr} {es : List Expr} {a : AM} {pos p : Pos} {x : Str} {k j n : Nat} {m : FM}
theorem pm_callQ (F : FnX C X.prog X.w X.base x k n m) (w : Wh X C j) (hk : k ≤ j) (ha : PA X (e :: es) (rA C W a)) (hl : ALen a n) (hg : Gl X x := by rfl) (hdb : (x == ("__debug__" : Str)) = false := by decide)
    (he : starEach (e :: es) X.env = (false, eval e X.env) :: starEach es X.env := by rfl) (hpl : (backTo pos (starEach es X.env)).any (·.1) = false := by rfl) : PE X (.Call (.Name x p) (e :: es) [] pos) (rE C W (mFn (fun ds q => (m ds q).ne) a)) := by
  obtain ⟨f, fd, ps, h1, h2, h3, h4, F⟩ := F.ex
  refine ⟨fun pins s σ H Q I ⟨G, env, p0, L, o⟩ => ?_⟩
  have hm1 : X.mg x = some (.ref f) := by rw [← w.mg]; exact h1
  rw [w.K] at h2 h3 F
  rw [w.mg] at F
  refine wpAny_Call_Name_kw (ld_glob I hg hm1 ?_ hdb)
  have o2 := o.bind
  cases ea : a env p0 with
  | bad =>
    rw [ea] at o2
    exact o2.elim
  | err er q =>
    have z : rA C W a σ H (fun _ _ => False) := ⟨G, env, p0, L, by rw [ea] at o2 ⊢; exact o2⟩
    refine PySem.W.callWith_K (h₀ := X.base) I.ok.mod.kin h2 (thn (ha.run pos pins s σ H _ I z) fun us s1 ⟨vs, H1, I1, r, q⟩ => q.elim) he hpl
  | ok ds q =>
    have lds := hl _ _ _ _ ea
    rw [ea] at o2
    have z : rA C W a σ H (fun vs H1 => spM C m n vs H1 Q (fun _ _ _ => False)) := ⟨G, env, p0, L, by
      rw [ea]
      intro vs G1 H1 x1 y1 r1
      refine ⟨G1, ds, q, by rw [r1.length]; exact lds, x1.sub, x1.tab, x1.nt L.tab L.nt, y1, r1, OutP.ne (OutP.imp o2 (fun d q2 z2 v G2 H2 x2 y2 r2 => z2 v G2 H2 (x1.trans x2) y2 r2) fun er q2 z2 => z2)⟩⟩
    refine PySem.W.callWith_K (h₀ := X.base) I.ok.mod.kin h2 (thn (ha.run pos pins s σ H _ I z) fun us s1 ⟨vs, H1, I1, r, h⟩ => ⟨I1.kIn, ?_⟩) he hpl
    obtain ⟨⟨ax, cls, dd⟩, hx⟩ := w.is
    obtain ⟨oe, hp, z1, z2⟩ := w.hot.at_ ax cls dd hx
    have P1 := I1.pin (ax, oe) (List.mem_append_left _ hp)
    have pin : L2H.PinOk X.stack H1 s1 (ax, oe) := ⟨P1.1, P1.2.1, fun hm => (List.mem_cons.mp (I1.stkSub ax hm)).elim P1.2.2.1 P1.2.2.2.1, P1.2.2.2.2⟩
    have hsp : spQ C m n (ax, oe) vs H1 Q (fun _ _ _ => False) := ⟨⟨cls, dd, hx, z1, z2⟩, h⟩
    have hl2 : us.length = ps.length := by
      rw [← r.length]
      exact F.len _ _ _ _ _ hsp
    have b := h3 s1 us I1.kIn (by rw [List.append_nil]; exact hl2)
    rw [List.append_nil] at b
    refine wpAny_call (codeAny_mono (F.run X.A X.stack s1 H1 ⟨us, []⟩ us vs Q (fun _ _ _ => False) (ax, oe) (w.room.mono hk) w.gd pin I1.env0 b r hsp) fun res s' done => ?_)
    cases res with
    | error er =>
      obtain ⟨_, _, _, _, _, _, _, _, _, _, _, _, z⟩ := done
      exact z.elim
    | ok fl => cases fl with
      | ret u => exact I1.after done
      | next => exact done.elim
      | brk => exact done.elim
      | cont => exact done.elim
end

/-! ### with the caught error in the context, without -/
def Ctx.hot (C : Ctx) (v : Addr × Value × Option Addr) : Ctx := { C with ex := some v }
mutual
def D.noX : D → Bool
  | .exc _ _ => false
  | .tup xs => D.noXs xs
  | .lst xs => D.noXs xs
  | .dct ks => D.noXk ks
  | .obj _ fs => D.noXf fs
  | .non => true
  | .bl _ => true
  | .int _ => true
  | .str _ => true
  | .pen => true
  | .fn _ => true
  | .ty _ => true
  | .scr _ => true
  | .clo => true
  | .lam _ => true
def D.noXs : List D → Bool
  | [] => true
  | x :: xs => x.noX && D.noXs xs
def D.noXk : List (Key × D) → Bool
  | [] => true
  | (_, x) :: xs => x.noX && D.noXk xs
def D.noXf : List (Str × D) → Bool
  | [] => true
  | (_, x) :: xs => x.noX && D.noXf xs
end
section
variable {C : Ctx} {v0 : Addr × Value × Option Addr}
mutual
theorem Rep.hot (h0 : C.ex = none) {G : Hp} : ∀ {v : V} {d : D}, Rep C G v d → Rep (C.hot v0) G v d
  | _, _, .non => .non
  | _, _, .bl b => .bl b
  | _, _, .int i => .int i
  | _, _, .str x => .str x
  | _, _, .tup h r => .tup h (Reps.hot h0 r)
  | _, _, .lst h r => .lst h (Reps.hot h0 r)
  | _, _, .dct h r => .dct h (RepK.hot h0 r)
  | _, _, .obj m h r => .obj m h (RepF.hot h0 r)
  | _, _, .pen h => .pen h
  | _, _, .fn h => .fn h
  | _, _, .ty n => .ty n
  | _, _, .scr h => .scr h
  | _, _, .clo h s0 => .clo h s0
  | _, _, .lam h g c => .lam h g c
  | _, _, .exc0 h m => by rw [h0] at h; cases h
  | _, _, .exc1 h m g r => by rw [h0] at h; cases h
theorem Reps.hot (h0 : C.ex = none) {G : Hp} : ∀ {vs : List V} {ds : List D}, Reps C G vs ds → Reps (C.hot v0) G vs ds
  | _, _, .nil => .nil
  | _, _, .cons h t => .cons (Rep.hot h0 h) (Reps.hot h0 t)
theorem RepK.hot (h0 : C.ex = none) {G : Hp} : ∀ {vs : List (Key × V)} {ds : List (Key × D)}, RepK C G vs ds → RepK (C.hot v0) G vs ds
  | _, _, .nil => .nil
  | _, _, .cons h t => .cons (Rep.hot h0 h) (RepK.hot h0 t)
theorem RepF.hot (h0 : C.ex = none) {G : Hp} : ∀ {vs : List (Str × V)} {ds : List (Str × D)}, RepF C G vs ds → RepF (C.hot v0) G vs ds
  | _, _, .nil => .nil
  | _, _, .cons h t => .cons (Rep.hot h0 h) (RepF.hot h0 t)
end
mutual
theorem Rep.cold {G : Hp} : ∀ {v : V} {d : D}, Rep (C.hot v0) G v d → d.noX = true → Rep C G v d
  | _, _, .non, _ => .non
  | _, _, .bl b, _ => .bl b
  | _, _, .int i, _ => .int i
  | _, _, .str x, _ => .str x
  | _, _, .tup h r, e => .tup h (Reps.cold r (by simpa only [D.noX] using e))
  | _, _, .lst h r, e => .lst h (Reps.cold r (by simpa only [D.noX] using e))
  | _, _, .dct h r, e => .dct h (RepK.cold r (by simpa only [D.noX] using e))
  | _, _, .obj m h r, e => .obj m h (RepF.cold r (by simpa only [D.noX] using e))
  | _, _, .pen h, _ => .pen h
  | _, _, .fn h, _ => .fn h
  | _, _, .ty n, _ => .ty n
  | _, _, .scr h, _ => .scr h
  | _, _, .clo h s0, _ => .clo h s0
  | _, _, .lam h g c, _ => .lam h g c
  | _, _, .exc0 h m, e => by simp [D.noX] at e
  | _, _, .exc1 h m g r, e => by simp [D.noX] at e
theorem Reps.cold {G : Hp} : ∀ {vs : List V} {ds : List D}, Reps (C.hot v0) G vs ds → D.noXs ds = true → Reps C G vs ds
  | _, _, .nil, _ => .nil
  | _, _, .cons h t, e => by
    simp only [D.noXs, Bool.and_eq_true] at e
    exact .cons (Rep.cold h e.1) (Reps.cold t e.2)
theorem RepK.cold {G : Hp} : ∀ {vs : List (Key × V)} {ds : List (Key × D)}, RepK (C.hot v0) G vs ds → D.noXk ds = true → RepK C G vs ds
  | _, _, .nil, _ => .nil
  | _, _, .cons h t, e => by
    simp only [D.noXk, Bool.and_eq_true] at e
    exact .cons (Rep.cold h e.1) (RepK.cold t e.2)
theorem RepF.cold {G : Hp} : ∀ {vs : List (Str × V)} {ds : List (Str × D)}, RepF (C.hot v0) G vs ds → D.noXf ds = true → RepF C G vs ds
  | _, _, .nil, _ => .nil
  | _, _, .cons h t, e => by
    simp only [D.noXf, Bool.and_eq_true] at e
    exact .cons (Rep.cold h e.1) (RepF.cold t e.2)
end
def Slot.noX : Slot → Bool
  | .un => true
  | .val d => d.noX
  | .own ds => D.noXs ds
theorem Tb.hot {H : Hp} (t : Tb C H) : Tb (C.hot v0) H := ⟨t.tabs, t.sm, t.co⟩
theorem Tb.cold {H : Hp} (t : Tb (C.hot v0) H) : Tb C H := ⟨t.tabs, t.sm, t.co⟩
theorem Ext.hot {G H G' H' : Hp} (x : Ext C G H G' H') : Ext (C.hot v0) G H G' H' := ⟨x.sub, x.gro, x.new, x.kee, x.fre, x.tab.hot⟩
theorem Ext.cold {G H G' H' : Hp} (x : Ext (C.hot v0) G H G' H') : Ext C G H G' H' := ⟨x.sub, x.gro, x.new, x.kee, x.fre, x.tab.cold⟩
theorem SOk.hot {G0 H0 G H : Hp} {σ : St} {env : Env} {p : Pen} (h0 : C.ex = none) (S : SOk C G0 H0 G H σ env p) : SOk (C.hot v0) G0 H0 G H σ env p :=
  ⟨⟨S.l.sub, S.l.tab.hot, S.l.pen, S.l.len, fun i x s h1 h2 => by
    have z := S.l.slot i x s h1 h2
    cases z with
    | un => exact .un _
    | val r => exact .val (r.hot h0)
    | own h n r => exact .own h n (r.hot h0), S.l.dis, S.l.nt⟩, S.x.hot, S.f⟩
theorem SOk.cold {G0 H0 G H : Hp} {σ : St} {env : Env} {p : Pen} (S : SOk (C.hot v0) G0 H0 G H σ env p) (h : env.all Slot.noX = true) : SOk C G0 H0 G H σ env p :=
  ⟨⟨S.l.sub, S.l.tab.cold, S.l.pen, S.l.len, fun i x s h1 h2 => by
    have z := S.l.slot i x s h1 h2
    have n := List.all_eq_true.mp h s (List.mem_of_getElem? h2)
    cases z with
    | un => exact .un _
    | val r => exact .val (r.cold n)
    | own h n' r => exact .own h n' (r.cold n), S.l.dis, S.l.nt⟩, S.x.cold, S.f⟩
theorem SOk.setU {G0 H0 G H : Hp} {σ : St} {env : Env} {p : Pen} (S : SOk C G0 H0 G H σ env p) (i : Nat) {v : Option V} : SOk C G0 H0 G H (σ.set i v) (env.set i .un) p := S.less (S.l.setU i) (Less.setU i)
end

/-! ### try .. except .. as -/
/-- the clause takes an error whose class is among es -/
def mTry (es : List Str) (i : Nat) (body suite : SM) : SM := fun env p => match body env p with
  | .err e env1 q => if e.c ∈ es then (match suite (env1.set i (.val (.exc e.c e.fs))) q with
    | .next env2 q2 => if (env2.set i .un).all Slot.noX = true then .next (env2.set i .un) q2 else .bad
    | .ret d q2 => if d.noX = true then .ret d q2 else .bad
    | _ => .bad) else .bad
  | r => r
section
variable {X : Cx} {C : Ctx} {W : WX} {gd : Bool} {k i : Nat} {x n : Str} {c : Value} {body suite : List Stmt} {b₀ : Stmt} {np pos pos' : Pos} {mb ms : SM} {es : List Str}
theorem rd_try (h0 : C.ex = none) (hK : C.K = X.K) (hc : ∀ y ∈ es, ∀ cA, C.mg y = some (.ref cA) → PySem.W.exmOne C.K (.ref cA) c = some true) {D : Ends} {σ : St} {H : Hp} (h : rS C W (mTry es i mb ms) D σ H) :
    rS C (wAs X.K c i (fun a cls d => rS (C.hot (a, cls, d)) W0 ms) W D) mb D σ H := by
  obtain ⟨G0, H0, G, env, p, S, o⟩ := h
  refine ⟨G0, H0, G, env, p, S, ?_⟩
  unfold mTry at o
  cases e : mb env p with
  | next env q =>
    rw [e] at o
    exact o
  | ret d q =>
    rw [e] at o
    exact o
  | brk env q =>
    rw [e] at o
    exact o
  | cnt env q =>
    rw [e] at o
    exact o
  | bad =>
    rw [e] at o
    exact o
  | err er env1 q =>
    rw [e] at o
    have o1 : ResP C W G0 H0 G D (if er.c ∈ es then (match ms (env1.set i (.val (.exc er.c er.fs))) q with
      | .next env2 q2 => if (env2.set i .un).all Slot.noX = true then .next (env2.set i .un) q2 else .bad
      | .ret d q2 => if d.noX = true then .ret d q2 else .bad
      | _ => .bad) else .bad) := o
    split at o1
    · rename_i hm
      intro cls dd σ' G' H' S' s' r
      obtain ⟨cA, c1, c2, c3⟩ := r
      subst c2
      refine ⟨true, by rw [← hK]; exact hc _ hm _ c1, fun _ a ha => ?_, fun z => by cases z⟩
      have sx : Rep (C.hot (a, .ref cA, dd)) G' (.ref a) (.exc er.c er.fs) := by
        rcases c3 with ⟨e1, e2⟩ | ⟨x, fvs, e1, e2, e3⟩
        · subst e2
          rw [e1]
          exact .exc0 rfl c1
        · subst e1
          exact .exc1 rfl c1 e2 (e3.hot h0)
      have Sh : SOk (C.hot (a, .ref cA, dd)) G0 H0 G' H' (σ'.set i (some (.ref a))) (env1.set i (.val (.exc er.c er.fs))) q := (S'.hot h0).setV i sx
      refine ⟨G0, H0, G', _, q, Sh, ?_⟩
      cases e2 : ms (env1.set i (.val (.exc er.c er.fs))) q with
      | next env2 q2 =>
        rw [e2] at o1
        have o2 : ResP C W G0 H0 G D (if (env2.set i .un).all Slot.noX = true then .next (env2.set i .un) q2 else .bad) := o1
        split at o2
        · rename_i nx
          intro σ2 G2 H2 S2 s2
          exact o2 _ G2 H2 ((S2.setU i).cold nx) (s'.trans s2)
        · exact o2.elim
      | ret d q2 =>
        rw [e2] at o1
        have o2 : ResP C W G0 H0 G D (if d.noX = true then .ret d q2 else .bad) := o1
        split at o2
        · rename_i nx
          exact fun v G2 H2 x2 y2 r2 => o2 v G2 H2 x2.cold y2 (r2.cold nx)
        · exact o2.elim
      | brk env2 q2 =>
        rw [e2] at o1
        exact o1.elim
      | cnt env2 q2 =>
        rw [e2] at o1
        exact o1.elim
      | err er2 env2 q2 =>
        rw [e2] at o1
        exact o1.elim
      | bad =>
        rw [e2] at o1
        exact o1.elim
    · exact o1.elim
end
end Pu
end

section
set_option maxHeartbeats 2000000
namespace Pu
open PySem PySem.Spec PyProof.Rows L2

section
variable {X : Cx} {C : Ctx} {W : WX} {k i : Nat} {x n : Str} {cA : Addr} {body suite : List Stmt} {b₀ : Stmt} {np pos pos' : Pos} {mb ms : SM} {es : List Str}
/-- try: body / except x as n: suite -/
theorem sm_try (w : Wk X C W true k) (hN : X.N.Nodup) (hm : X.mg x = some (.ref cA)) (hc : ∀ y ∈ es, ∀ cB, C.mg y = some (.ref cB) → PySem.W.exmOne C.K (.ref cB) (.ref cA) = some true)
    (hb : ∀ (W' : WX) (pn : List (Addr × Obj)) (xe : Value → Shared → Prop), Wk (X.tr pn xe) C W' true k → PSs (X.tr pn xe) body (rS C W' mb))
    (hsu : ∀ (a : Addr) (oe : Obj) (cls : Value) (dd : Option Addr) (pn : List (Addr × Obj)), Wh (X.suite a ((a, oe) :: pn)) (C.hot (a, cls, dd)) k → PSs (X.suite a ((a, oe) :: pn)) (b₀ :: suite) (rS (C.hot (a, cls, dd)) W0 ms))
    (hi : X.N[i]? = some n := by rfl) (hs : X.stack = X.env :: X.outer := by rfl) (hf : X.env.frame = some X.env.locals := by rfl) (hln : X.env.kindOf n = some .local := by rfl) (hg : Gl X x := by rfl) (hd : (x == ("__debug__" : Str)) = false := by decide) :
    PS X (.Try body [.ExceptHandler (some (.Name x np)) (some n) (b₀ :: suite) pos'] [] [] pos) (rS C W (mTry es i mb ms)) :=
  (ps_try_as (c := .ref cA) (tb := fun W' => rS C W' mb) (ts := fun a cls dd => rS (C.hot (a, cls, dd)) W0 ms) hs hf hN hi hln ⟨hg, hd, .inl hm⟩ w.tk
    (fun W' pn xe tk _ => hb W' pn xe ⟨w.K, w.mg, w.room, w.gd, tk, w.cold⟩)
    (fun a oe cls dd pn hz hv => hsu a oe cls dd pn ⟨w.K, w.mg, L2H.roomH_of w.room |> fun r => ⟨r.dp, r.un⟩, w.gd rfl, ⟨fun a' c' d' e => by
      cases e
      exact ⟨oe, List.mem_cons_self, hz, hv⟩⟩, _, rfl⟩)).of fun D σ H h => rd_try w.cold w.K hc h
end

/-! ### the script -/
section
variable {X : Cx} {C : Ctx} {W : WX} {tg l e : Expr} {m : EM} {pos p : Pos}
def mItS (m : EM) : AM := fun env p => (m env p).bind fun d q => match d with
  | .scr ns => .ok (ns.map D.int) q
  | _ => .bad
theorem im_scr (hK : C.K = X.K) (h : PE X l (rE C W m)) : PI X tg l (rI C W true (mItS m)) := (pi_list (tg := tg) h).of fun σ H R ⟨G, env, p, L, o⟩ => by
  refine ⟨G, env, p, L, o.bind.imp (fun d q z v G1 H1 x1 y1 r1 => ?_) fun _ _ z => z⟩
  split at z
  · rename_i ns
    cases r1 with
    | @scr a _ h =>
      rw [hK] at h
      refine ⟨a, rfl, ⟨_, SqL.mono x1.sub h⟩, z _ G1 H1 x1 y1 ?_⟩
      have w := walk_list (K := X.K) (a := a) (xs := ns.map V.int)
      have el : (ns.map V.int).length = (ns.map D.int).length := by rw [List.length_map, List.length_map]
      rw [el] at w
      refine ⟨_, _, w, fun G' H' s1 s2 _ => SqL.mono s2 (SqL.mono s1 h), fun i d G' H' x H'' hd s1 s2 y => ?_⟩
      obtain ⟨e1, e2⟩ := y
      obtain ⟨d', k1, k2⟩ := (Reps.ints (C := C) (G := G1) ns).getL e2
      rw [hd] at k1
      cases k1
      subst e1
      exact ⟨G', Alc.refl s2, k2.mono s1⟩
  · exact z.elim
def kListS : List D → Option (List D)
  | [.scr ns] => some (ns.map D.int)
  | _ => none
theorem ok_listS {C : Ctx} {K : PySem.W.Frag} (hK : C.K = K) : FCallOk C (fun xs H Q => ∃ p ys, xs = [.ref p] ∧ (SqL K H p ys ∨ SqT K H p ys) ∧ ∀ l, H l = none → Q (.ref l) (upd H l (.lst ys))) kListS := by
  intro G H σ env p vs ds z Q L r ek q
  unfold kListS at ek
  split at ek
  · rename_i ns
    cases ek
    obtain ⟨v, rfl, rv⟩ := r.one
    rcases rv with rv | ⟨_, _, _, _, e2, _⟩
    · cases rv with
      | scr h =>
        rw [hK] at h
        exact ⟨_, ns.map V.int, rfl, .inl (SqL.mono L.sub h), fun l hl => q l _ hl (Reps.ints ns)⟩
    · cases e2
  · cases ek
theorem pm_listS {a : AM} (hK : C.K = X.K) (hm : X.mg "list" = none) (ha : PA X [e] (rAB C W a)) (hg : Gl X "list" := by rfl) (he : starEach [e] X.env = (false, eval e X.env) :: starEach [] X.env := by rfl) (hpl : (backTo pos (starEach [] X.env)).any (·.1) = false := by rfl) :
    PE X (.Call (.Name "list" p) [e] [] pos) (rF C W (mFCall kListS a)) := pm_ctF (ok_listS hK) call_list_of hm (by with_unfolding_all rfl) ha hg (by decide) (by decide) he hpl
end

/-! ### dict displays -/
def mPairs : List (Key × EM) → Env → Pen → Out (List (Key × D))
  | [], _, p => .ok [] p
  | (k, m) :: r, env, p => (m env p).bind fun d q => (mPairs r env q).bind fun ks q2 => .ok ((k, d) :: ks) q2
def mDisp (ms : List (Key × EM)) : EM := fun env p => (mPairs ms env p).bind fun ks q => if ks.length ≤ 15 ∧ (ks.map (·.1)).Nodup then .ok (.dct ks) q else .bad
theorem RepK.keys {C : Ctx} {G : Hp} : ∀ {kvs : List (Key × V)} {ks : List (Key × D)}, RepK C G kvs ks → kvs.map (·.1) = ks.map (·.1)
  | _, _, .nil => rfl
  | _, _, .cons _ t => by rw [List.map_cons, List.map_cons, RepK.keys t]
theorem putK_new : ∀ {acc : List (Key × V)} {k : Key} {v : V}, k ∉ acc.map (·.1) → putK acc k v = acc ++ [(k, v)] := fun {acc k v} h => by
  unfold putK
  rw [if_neg]
  intro z
  obtain ⟨p, h1, h2⟩ := List.any_eq_true.mp z
  exact h (List.mem_map.mpr ⟨p, h1, of_decide_eq_true h2⟩)
theorem mergeK_nodup : ∀ {more acc : List (Key × V)}, ((acc ++ more).map (·.1)).Nodup → mergeK acc more = acc ++ more
  | [], acc, _ => by
    rw [List.append_nil]
    rfl
  | (k, v) :: more, acc, h => by
    have h2 : ((acc ++ [(k, v)] ++ more).map (·.1)).Nodup := by
      rw [List.append_assoc]
      exact h
    have h1 : k ∉ acc.map (·.1) := fun z => by
      rw [List.map_append, List.map_cons] at h
      exact (List.nodup_append.mp h).2.2 k z k List.mem_cons_self rfl
    show mergeK (putK acc k v) more = _
    rw [putK_new h1, mergeK_nodup h2, List.append_assoc]
    rfl
theorem rd_pairs {C : Ctx} {W : WX} : ∀ (ms : List (Key × EM)) {G : Hp} {σ : St} {H : Hp} {env : Env} {p : Pen} {Q : List (V × V) → Hp → Prop}, LOk C G H σ env p →
    OutP (mPairs ms env p) (fun ks q => ∀ kvs G' H', Ext C G H G' H' → PenAt C G' H' q → RepK C G' kvs ks → Q (kvs.map fun kv => (kV kv.1, kv.2)) H') (ErrP C W G H σ) → tPairs (ms.map fun km => (tC (kV km.1), rE C W km.2)) σ H Q
  | [], G, σ, H, env, p, Q, L, o => o [] G H (Ext.refl L.sub L.tab) L.pen .nil
  | (k, m) :: r, G, σ, H, env, p, Q, L, o => by
    refine ⟨G, env, p, L, (OutP.bind o).imp (fun d q z v G1 H1 x1 y1 r1 => ?_) fun _ _ z => z⟩
    exact rd_pairs r (L.step x1 y1) (z.bind.imp (fun ks q2 z2 kvs G2 H2 x2 y2 r2 => z2 ((k, v) :: kvs) G2 H2 (x1.trans x2) y2 (.cons (r1.mono x2.gro) r2)) fun _ _ z => z.step x1)
theorem tb_put {C : Ctx} {H : Hp} {l : Addr} {o o2 : HO} (t : Tb C H) (h : H l = some o) (n1 : ∀ ps, o ≠ .tbl ps) (n2 : ∀ c q, o ≠ LamX.CodeO c q) (n3 : ∀ a u, o ≠ .frz a u) : Tb C (upd H l o2) := by
  have k : ∀ b u, H b = some u → u ≠ o → upd H l o2 b = some u := fun b u e n => by
    rw [upd_ne (fun z => by
      rw [z, h] at e
      cases e
      exact n rfl)]
    exact e
  refine ⟨fun q hq => ?_, t.sm.elim fun a e => e.elim fun u q => ⟨a, u, k _ _ q (n3 a u).symm⟩, fun f c q Gc e => k _ _ (t.co f c q Gc e) (n2 c q).symm⟩
  obtain ⟨ps, e1, e2, e3⟩ := t.tabs q hq
  refine ⟨ps, k _ _ e1 (n1 ps).symm, e2, fun pos cv hc => ?_⟩
  obtain ⟨c, c1, c2⟩ := e3 pos cv hc
  exact ⟨c, c1, k _ _ c2 (n2 c _).symm⟩
theorem dK_code {kvs : List (Key × V)} (c : Addr) (q : Str) : HO.dK kvs ≠ LamX.CodeO c q := fun z => by
  unfold LamX.CodeO at z
  cases z
section
variable {X : Cx} {C : Ctx} {W : WX} {pos : Pos}
theorem pm_disp {keys : List (Option Expr)} {values : List Expr} {ms : List (Key × EM)} (h : PPs X pos keys values (ms.map fun km => (tC (kV km.1), rE C W km.2))) (hall : keys.all (·.isSome) = true := by rfl) (hl : keys.length = values.length := by rfl) (h0 : keys ≠ [] := by exact fun z => nomatch z)
    (h15 : keys.length ≤ 15 := by decide) : PE X (.Dict keys values pos) (rE C W (mDisp ms)) := (pe_disp h hall hl h0 h15).of fun σ H Q ⟨G, env, p, L, o⟩ => by
  intro t ht
  have al : Alc G H G (upd H t (.dK [])) := Alc.own L.sub ht
  have gt : G t = none := free_of L.sub ht
  have L1 := L.alc al
  refine rd_pairs ms L1 (o.bind.imp (fun ks q z kvs G2 H2 x2 y2 r2 => ?_) fun _ _ z => ErrP.step z (L.ext al))
  split at z
  · rename_i c
    have e2 : H2 t = some (.dK []) := x2.kee _ _ upd_same (fun e => by
      obtain ⟨_, w, _⟩ := L1.pen t e
      rw [upd_same] at w
      cases w) fun _ w => by cases w
    have g2 : G2 t = none := by
      cases e : G2 t with
      | none => rfl
      | some u =>
        rcases x2.new t u e with w | w | ⟨q, w⟩
        · rw [gt] at w
          cases w
        · rw [upd_same] at w
          cases w
        · rw [x2.sub _ _ e, w] at e2
          cases e2
    have lk : kvs.length = ks.length := by
      have := congrArg List.length r2.keys
      rwa [List.length_map, List.length_map] at this
    refine ⟨e2, kvs, rfl, by rw [lk]; exact c.1, ?_⟩
    rw [mergeK_nodup (acc := []) (by rw [List.nil_append, r2.keys]; exact c.2), List.nil_append]
    have pe : ∀ b, C.pa = some b → b ≠ t := fun b e w => by
      obtain ⟨_, w1, _⟩ := y2 b e
      rw [w, e2] at w1
      cases w1
    have s2 : Sub G2 (upd G2 t (.dK kvs)) := sub_upd g2
    refine z (.ref t) (upd G2 t (.dK kvs)) (upd H2 t (.dK kvs)) ⟨fun b u e => ?_, x2.gro.trans s2, fun b u e => ?_, fun b u e n1 n2 => ?_, fun b e => ?_, tb_put x2.tab e2 (fun _ w => by cases w) dK_code (fun _ _ w => by cases w)⟩ (fun b e => ?_) (.dct upd_same (r2.mono s2))
    · by_cases hb : b = t
      · subst hb
        rw [upd_same] at e ⊢
        exact e
      · rw [upd_ne hb] at e ⊢
        exact x2.sub b u e
    · by_cases hb : b = t
      · subst hb
        exact .inr (.inl ht)
      · rw [upd_ne hb] at e
        rcases x2.new b u e with w | w | w
        · exact .inl w
        · rw [upd_ne hb] at w
          exact .inr (.inl w)
        · exact .inr (.inr w)
    · have hb : b ≠ t := ne_of_none e ht
      rw [upd_ne hb]
      exact x2.kee b u (by rw [upd_ne hb]; exact e) n1 n2
    · by_cases hb : b = t
      · rw [hb, upd_same] at e
        cases e
      · rw [upd_ne hb] at e
        have w := x2.fre b e
        rw [upd_ne hb] at w
        exact w
    · obtain ⟨w1, w2, w3⟩ := y2 b e
      exact ⟨by rw [upd_ne (pe b e)]; exact w1, by rw [upd_ne (pe b e)]; exact w2, s2 _ _ w3⟩
  · exact z.elim
end
end Pu
end

section
set_option maxHeartbeats 2000000
namespace Pu
open PySem PySem.Spec PyProof.Rows L2

/-! ### the pen -/
def penVal (k : Key) (q : Pen) : Option D :=
  if k = kCells then some (.lst (q.cells.map D.int)) else if k = kAt then some (.int q.at_) else if k = kDigits then some (.int q.digits) else if k = kCount then some (.int q.count) else if k = kFold then some (.int q.fold) else none
def penSet (k : Key) (i : Int) (q : Pen) : Option Pen :=
  if k = kAt then (if 0 ≤ i then some { q with at_ := i.toNat } else none) else if k = kDigits then some { q with digits := i } else if k = kCount then some { q with count := i } else if k = kFold then some { q with fold := i } else none
def mPenGet (k : Key) (m : EM) : EM := fun env p => (m env p).bind fun d q => match d with
  | .pen => (match penVal k q with
    | some z => .ok z q
    | none => .bad)
  | _ => .bad
def mPenPut (i : Nat) (k : Key) (m : EM) : SM := fun env p => (m env p).res env fun d q => match env[i]?, d with
  | some (.val .pen), .int n => (match penSet k n q with
    | some q' => .next env q'
    | none => .bad)
  | _, _ => .bad
theorem pen_keys : kCells ≠ kAt ∧ kCells ≠ kDigits ∧ kCells ≠ kCount ∧ kCells ≠ kFold ∧ kAt ≠ kDigits ∧ kAt ≠ kCount ∧ kAt ≠ kFold ∧ kDigits ≠ kCount ∧ kDigits ≠ kFold ∧ kCount ≠ kFold := by
  unfold kCells kAt kDigits kCount kFold
  decide
theorem val_cons {k k' : Key} {v : V} {kvs : List (Key × V)} : valV ((k', v) :: kvs) k = if k' = k then some v else valV kvs k := by
  unfold valV
  by_cases h : k' = k
  · rw [if_pos h, List.find?_cons_of_pos (by simpa using h)]
    rfl
  · rw [if_neg h, List.find?_cons_of_neg (by simpa using h)]
theorem penVal_ok {C : Ctx} {G H : Hp} {q : Pen} {k : Key} {z : D} {a : Addr} (y : PenAt C G H q) (hp : C.pa = some a) (e : penVal k q = some z) : ∃ v, valV (penKvs C.pl q) k = some v ∧ Rep C G v z := by
  obtain ⟨_, _, hl⟩ := y a hp
  obtain ⟨n1, n2, n3, n4, n5, n6, n7, n8, n9, n10⟩ := pen_keys
  unfold penVal at e
  unfold penKvs
  by_cases h1 : k = kCells
  · rw [if_pos h1] at e
    cases e
    exact ⟨_, by rw [val_cons, if_pos h1.symm], .lst hl (Reps.ints _)⟩
  rw [if_neg h1] at e
  by_cases h2 : k = kAt
  · rw [if_pos h2] at e
    cases e
    exact ⟨_, by rw [val_cons, if_neg (Ne.symm h1), val_cons, if_pos h2.symm], .int _⟩
  rw [if_neg h2] at e
  by_cases h3 : k = kDigits
  · rw [if_pos h3] at e
    cases e
    exact ⟨_, by rw [val_cons, if_neg (Ne.symm h1), val_cons, if_neg (Ne.symm h2), val_cons, if_pos h3.symm], .int _⟩
  rw [if_neg h3] at e
  by_cases h4 : k = kCount
  · rw [if_pos h4] at e
    cases e
    exact ⟨_, by rw [val_cons, if_neg (Ne.symm h1), val_cons, if_neg (Ne.symm h2), val_cons, if_neg (Ne.symm h3), val_cons, if_pos h4.symm], .int _⟩
  rw [if_neg h4] at e
  by_cases h5 : k = kFold
  · rw [if_pos h5] at e
    cases e
    exact ⟨_, by rw [val_cons, if_neg (Ne.symm h1), val_cons, if_neg (Ne.symm h2), val_cons, if_neg (Ne.symm h3), val_cons, if_neg (Ne.symm h4), val_cons, if_pos h5.symm], .int _⟩
  rw [if_neg h5] at e
  cases e
theorem penSet_ok {l : Addr} {q q' : Pen} {k : Key} {i : Int} (e : penSet k i q = some q') : putK (penKvs l q) k (.int i) = penKvs l q' ∧ q'.cells = q.cells := by
  obtain ⟨n1, n2, n3, n4, n5, n6, n7, n8, n9, n10⟩ := pen_keys
  unfold penSet at e
  unfold penKvs putK
  by_cases h2 : k = kAt
  · rw [if_pos h2] at e
    split at e
    · rename_i h
      cases e
      subst h2
      have e2 : ((i.toNat : Nat) : Int) = i := Int.toNat_of_nonneg h
      simp only [List.any_cons, List.map_cons, List.map_nil, n1, Ne.symm n1, n2, n3, n4, n5, Ne.symm n5, n6, Ne.symm n6, n7, Ne.symm n7, e2, decide_true, Bool.true_or, Bool.or_true, if_true, if_false, decide_false, Bool.false_or, and_self]
    · cases e
  rw [if_neg h2] at e
  by_cases h3 : k = kDigits
  · rw [if_pos h3] at e
    cases e
    subst h3
    simp [n2, n5, n8, Ne.symm n8, n9, Ne.symm n9, Ne.symm n5, Ne.symm n2]
  rw [if_neg h3] at e
  by_cases h4 : k = kCount
  · rw [if_pos h4] at e
    cases e
    subst h4
    simp [n3, n6, n8, n10, Ne.symm n10]
  rw [if_neg h4] at e
  by_cases h5 : k = kFold
  · rw [if_pos h5] at e
    cases e
    subst h5
    simp [n4, n7, n9, n10]
  rw [if_neg h5] at e
  cases e
section
variable {C : Ctx} {G0 H0 G H : Hp} {σ : St} {env : Env} {q q' : Pen}
theorem SOk.penPut (S : SOk C G0 H0 G H σ env q) {a : Addr} (hp : C.pa = some a) (hc : q'.cells = q.cells) : SOk C G0 H0 G (upd H a (.dK (penKvs C.pl q'))) σ env q' := by
  obtain ⟨g, h, hl⟩ := S.l.pen a hp
  have tab : Tb C (upd H a (.dK (penKvs C.pl q'))) := tb_put S.l.tab h (fun _ z => by cases z) dK_code fun _ _ z => by cases z
  have sub : Sub G (upd H a (.dK (penKvs C.pl q'))) := fun b o e => by
    rw [upd_ne (ne_of_none e g)]
    exact S.l.sub b o e
  refine ⟨⟨sub, tab, fun b e => ?_, S.l.len, fun j x s h1 h2 => ?_, S.l.dis, S.l.nt⟩, ⟨sub, S.x.gro, S.x.new, fun b o e n1 n2 => ?_, fun b e => ?_, tab⟩, S.f⟩
  · rw [hp] at e
    cases e
    exact ⟨g, upd_same, by rw [hc]; exact hl⟩
  · have z := S.l.slot j x s h1 h2
    cases z with
    | un => exact .un _
    | val r => exact .val r
    | own h n r => exact .own (by rw [upd_ne (ne_of h ‹H a = _› (by intro w; cases w))]; exact h) n r
  · have nb : b ≠ a := fun z => n1 (by rw [hp, z])
    rw [upd_ne nb]
    exact S.x.kee b o e n1 n2
  · by_cases nb : b = a
    · rw [nb, upd_same] at e
      cases e
    · rw [upd_ne nb] at e
      exact S.x.fre b e
end
section
variable {X : Cx} {C : Ctx} {W : WX} {m : EM} {e : Expr} {x z : Str} {pos p p' p2 : Pos} {j : Int}
/-- pen['k'] -/
theorem pm_penGet (hu : X.A.units + 64 < cLine) (h : PE X e (rE C W m)) {jj} : PE X (.Subscript e (.Constant (.str z) jj p) pos) (rE C W (mPenGet (.inr z) m)) := (pe_dget (by omega) h pe_str (fun _ _ => rfl)).of fun σ H Q ⟨G, env, p, L, o⟩ => by
  refine ⟨G, env, p, L, o.bind.imp (fun d q z v G1 H1 x1 y1 r1 => ?_) fun _ _ z => z⟩
  split at z
  · cases ev : penVal (.inr ‹Str›) q with
    | none =>
      rw [ev] at z
      exact z.elim
    | some w =>
      rw [ev] at z
      cases r1 with
      | @pen a hp =>
        obtain ⟨_, hH, _⟩ := y1 a hp
        obtain ⟨v, k1, k2⟩ := penVal_ok y1 hp ev
        exact ⟨a, v, rfl, .inl ⟨_, _, .inl hH, rfl, k1.symm⟩, z v G1 H1 x1 y1 k2⟩
  · exact z.elim
/-- pen['k'] = e, pen a name -/
theorem sm_penPut (i : Nat) (hu : X.A.units + 64 < cLine) (h : PE X e (rE C W m)) {jj} (hN : X.N[i]? = some x := by rfl) (hv : Vis X.env.scope x := by first | exact Or.inl rfl | exact Or.inr (Or.inl rfl) | exact Or.inr (Or.inr rfl)) (hd : (x == ("__debug__" : Str)) = false := by decide)
    (hcd : (x == ("__classdict__" : Str)) = false := by decide) (hs : swapsWith e (some (.Subscript (.Name x p) (.Constant (.str z) jj p2) p')) pos.line X.env = pure false := by rfl) :
    PS X (.Assign [.Subscript (.Name x p) (.Constant (.str z) jj p2) p'] e pos) (rS C W (mPenPut i (.inr z) m)) := (ps_dput (by omega) (pe_var hN hv hd hcd) pe_str h hs).of fun D σ H ⟨G0, H0, G, env, p, S, o⟩ => by
  refine ⟨G, env, p, S.l, (o.out S).imp (fun d q w v G1 H1 x1 y1 r1 => ?_) fun _ _ z => z⟩
  have S1 := S.step x1 y1
  split at w
  · rename_i n hi
    cases es : penSet (.inr z) n q with
    | none =>
      rw [es] at w
      exact w.elim
    | some q' =>
      rw [es] at w
      obtain ⟨u, k1, k2⟩ := S1.l.val hi
      cases k2 with
      | @pen a hp =>
        cases r1
        obtain ⟨_, hH, _⟩ := y1 a hp
        obtain ⟨e1, e2⟩ := penSet_ok (l := C.pl) es
        refine ⟨_, k1, a, _, rfl, .inl ⟨_, .inr z, hH, rfl, ?_, rfl⟩, ?_⟩
        · show 5 < sizeLine
          rw [sizeLine_eq]
          omega
        · rw [e1]
          exact w σ G1 _ (S1.penPut hp e2) x1.gro
  · exact w.elim
end
end Pu
end

section
set_option maxHeartbeats 2000000
namespace Pu
open PySem PySem.Spec PyProof.Rows L2

/-! ### the law's own def -/
def Ctx.withPen (C : Ctx) (a l : Addr) : Ctx := { C with pa := some a, pl := l }
def penDs (q : Pen) : List (Key × D) := [(kCells, .lst (q.cells.map D.int)), (kAt, .int q.at_), (kDigits, .int q.digits), (kCount, .int q.count), (kFold, .int q.fold)]
/-- all that is frozen at the start -/
def fz (H : Hp) : Hp := fun b => match H b with
  | some (.frz o u) => some (.frz o u)
  | _ => none
theorem fz_sub (H : Hp) : Sub (fz H) H := fun b o e => by
  unfold fz at e
  split at e
  · rename_i o' u h
    rw [h]
    exact e
  · cases e
theorem fz_sql {K : PySem.W.Frag} {H : Hp} {a : Addr} {xs : List V} (n : ∀ ys, H a ≠ some (.lst ys)) (h : SqL K H a xs) : SqL K (fz H) a xs := by
  rcases h with (h | ⟨o, h⟩) | h
  · exact absurd h (n _)
  · refine .inl (.inr ⟨o, ?_⟩)
    unfold fz
    rw [h]
  · exact .inr h
theorem fz_nt {C : Ctx} {H : Hp} (t : Tb C H) : NT C (fz H) := fun p hp => by
  obtain ⟨_, k, _⟩ := t.tabs p hp
  unfold fz
  rw [k]
def emptyPen : Pen := ⟨[], 0, 0, 0, 0⟩
/-- the slots behind pen = _law_pen(script) -/
def envL (n ip : Nat) : Env := (List.replicate n Slot.un).set ip (.val .pen)
/-- called with a script, it says True -/
def spLaw (C : Ctx) (ok : List Int → Prop) : Sp := fun vs H Q _ => ∃ a ns, vs = [.ref a] ∧ SqL C.K H a (ns.map V.int) ∧ (∀ ys, H a ≠ some (.lst ys)) ∧ ok ns ∧ Tb C H ∧ ∀ H', Q (.bl true) H'
theorem repK_pen {C : Ctx} {G : Hp} {kvs : List (Key × V)} {q : Pen} (r : RepK C G kvs (penDs q)) : ∃ l, kvs = penKvs l q ∧ G l = some (.lst (q.cells.map V.int)) := by
  unfold penDs at r
  cases r with
  | cons r1 t =>
    cases t with
    | cons r2 t =>
      cases t with
      | cons r3 t =>
        cases t with
        | cons r4 t =>
          cases t with
          | cons r5 t =>
            cases t
            cases r2
            cases r3
            cases r4
            cases r5
            cases r1 with
            | @lst l vs _ h rs =>
              have e := rs.of_ints
              subst e
              exact ⟨l, rfl, h⟩
/-- the context behind the pen's making -/
theorem pen_start {C : Ctx} {G H : Hp} {σ : St} {n ip : Nat} {v : V} {q : Pen} (S : LOk C G H σ (((env0 n [.scr ns])).set ip (.val (.dct (penDs q)))) emptyPen) (hip : ip < n) (h1 : 1 ≤ n) : ∃ a l G', SOk (C.withPen a l) G' H G' H σ (envL n ip) q := by
  have he : (((env0 n [.scr ns])).set ip (.val (.dct (penDs q))))[ip]? = some (.val (.dct (penDs q))) := by
    rw [List.getElem?_set_self]
    unfold env0
    rw [List.length_append, List.length_map, List.length_replicate, List.length_singleton]
    omega
  obtain ⟨w, k1, k2⟩ := S.val he
  cases k2 with
  | @dct a kvs _ h r =>
    obtain ⟨l, rfl, hl⟩ := repK_pen r
    have nl : l ≠ a := fun z => by
      rw [z, h] at hl
      cases hl
    let G' : Hp := fun b => if b = a then none else G b
    have sub : Sub G' H := fun b o e => by
      by_cases hb : b = a
      · rw [show G' b = none from if_pos hb] at e
        cases e
      · rw [show G' b = G b from if_neg hb] at e
        exact S.sub b o e
    have tab : Tb (C.withPen a l) H := ⟨S.tab.tabs, S.tab.sm, S.tab.co⟩
    have pen : PenAt (C.withPen a l) G' H q := fun b e => by
      cases e
      exact ⟨if_pos rfl, S.sub _ _ h, (if_neg nl).trans hl⟩
    have len : σ.length = (envL n ip).length := by
      rw [S.len]
      unfold envL env0
      rw [List.length_set, List.length_append, List.length_map, List.length_replicate, List.length_singleton, List.length_set, List.length_replicate]
      omega
    have no : ∀ (i : Nat) (ds : List D), (envL n ip)[i]? ≠ some (.own ds) := fun i ds e => by
      unfold envL at e
      rcases set_at e with ⟨_, z⟩ | ⟨_, z⟩
      · cases z
      · rw [List.getElem?_replicate] at z
        split at z <;> cases z
    refine ⟨a, l, G', ⟨⟨sub, tab, pen, len, fun i x s e1 e2 => ?_, fun i j ds es b e1 _ _ _ => absurd e1 (no i ds), fun p hp => ?_⟩, Ext.refl sub tab, fun i ds b e _ => absurd e (no i ds)⟩⟩
    · unfold envL at e2
      rcases set_at e2 with ⟨z1, z2⟩ | ⟨_, z⟩
      · subst z1 z2
        rw [k1] at e1
        cases e1
        exact .val (.pen rfl)
      · rw [List.getElem?_replicate] at z
        split at z
        · cases z
          exact .un _
        · cases z
    · show (if p.1 = a then none else G p.1) = none
      split
      · rfl
      · exact S.nt p hp
theorem fn_law {C : Ctx} {P : Program} {w : World} {base : Heap} {k ip : Nat} {f : Addr} {name qual : Str} {params : Arguments} {st : Stmt} {rest : List Stmt} {scope : Scope} {dV kV doc pm cdv ct oc : Value} {an od : Option Addr}
    {osl : Array (Option Value)} {N : List Str} {x : Str} {m1 m2 : SM} {ok : List Int → Prop} {pen0 : List Int → Pen} (lk : C.K.lookup f = some ⟨oc, od, .func (PySem.W.fnOf name qual params (st :: rest) scope dV kV doc pm an cdv ct), osl⟩) (hcd : PySem.W.codeIn C.K cdv qual = true) (S : FnScope N [x] scope) (hx : C.ex = none) (hp : C.pa = none) (hip : ip < N.length) (h1 : 1 ≤ N.length)
    (hb1 : ∀ (A : Around) (outer : List PySem.Env) (s : Shared) (H : Hp) (E : XK), Wk (cxOf (L2.CX P w) P w C.K C.mg base N qual scope f cdv A outer s H E) C (fun cls d _ H => E cls d H) true k → PS (cxOf (L2.CX P w) P w C.K C.mg base N qual scope f cdv A outer s H E) st (rS C (fun cls d _ H => E cls d H) m1))
    (hb2 : ∀ (a l : Addr) (A : Around) (outer : List PySem.Env) (s : Shared) (H : Hp) (E : XK), Wk (cxOf (L2.CX P w) P w C.K C.mg base N qual scope f cdv A outer s H E) (C.withPen a l) (fun cls d _ H => E cls d H) true k → PSs (cxOf (L2.CX P w) P w C.K C.mg base N qual scope f cdv A outer s H E) rest (rS (C.withPen a l) (fun cls d _ H => E cls d H) m2))
    (hm1 : ∀ ns, ok ns → m1 (env0 N.length [.scr ns]) emptyPen = .next ((env0 N.length [.scr ns]).set ip (.val (.dct (penDs (pen0 ns))))) emptyPen)
    (hm2 : ∀ ns, ok ns → ∃ q, m2 (envL N.length ip) (pen0 ns) = .ret (.bl true) q) :
    FnA true P w C.K C.mg base (L2.CX P w) (k + 1) f (PySem.W.fnOf name qual params (st :: rest) scope dV kV doc pm an cdv ct) [x] (spLaw C ok) := by
  refine ⟨fun vs H Q E ⟨a, ns, h, _⟩ => by rw [h]; rfl, fun A outer s H args us vs Q E hr hg e0 hbi r hsp => ?_⟩
  obtain ⟨a, ns, rfl, hq, hn, hok, ht, hQ⟩ := hsp
  refine LamX.run_ofS (CX := L2.CX P w) lk hcd S hr e0 hbi r rfl fun room => ?_
  have wk : Wk (cxOf (L2.CX P w) P w C.K C.mg base N qual scope f cdv A outer s H E) C (fun cls d _ H => E cls d H) true k := ⟨rfl, rfl, room, hg, takes_of rfl rfl rfl rfl, hx⟩
  have wk2 : ∀ a l, Wk (cxOf (L2.CX P w) P w C.K C.mg base N qual scope f cdv A outer s H E) (C.withPen a l) (fun cls d _ H => E cls d H) true k := fun a l => ⟨rfl, rfl, room, hg, takes_of rfl rfl rfl rfl, hx⟩
  have two : PSs (cxOf (L2.CX P w) P w C.K C.mg base N qual scope f cdv A outer s H E) rest (fun D σ H1 => ∃ a l, rS (C.withPen a l) (fun cls d _ H => E cls d H) m2 D σ H1) := ⟨fun pins s1 σ H1 D I ⟨a, l, h⟩ => (hb2 a l A outer s H E (wk2 a l)).run pins s1 σ H1 D I h⟩
  refine ⟨_, pss_cons (hb1 A outer s H E wk) two, fz H, H, fz H, env0 N.length [.scr ns], emptyPen, start_sok (vs := [V.ref a]) (fz_sub H) ht (fz_nt ht) (PenAt.none hp) (Reps.one (.scr (fz_sql hn hq))), ?_⟩
  rw [hm1 ns hok]
  intro σ' G' H' S' _
  obtain ⟨pa, pl, G2, S2⟩ := pen_start (v := .non) S'.l hip h1
  refine ⟨pa, pl, G2, H', G2, _, _, S2, ?_⟩
  obtain ⟨q, hq2⟩ := hm2 ns hok
  rw [hq2]
  intro v G3 H3 _ _ rv
  cases rv
  exact hQ H3
end Pu
end

section
set_option maxHeartbeats 2000000
namespace Pu
open PySem PySem.Spec PyProof.Rows L2

/-! ### what the head tells of the written part -/
structure Fx (fa : List He.Fa) (fn : List He.DefD) (ex : PySem.W.Frag → Bool) (K : PySem.W.Frag) (mg : Str → Option Value) : Prop where
  hp : ∃ h : Heap, K.In h ∧ h.Ns mainGlobals mg
  says : He.SaysD fa fn K
  more : ex K = true
section
variable {fa : List He.Fa} {fn : List He.DefD} {ex : PySem.W.Frag → Bool} {K : PySem.W.Frag} {mg : Str → Option Value}
theorem Fx.glo (h : Fx fa fn ex K mg) (i : Nat) {x : Str} (e : fa[i]? = some (.glo x) := by rfl) : mg x = some (.ref (He.ga K x)) := by
  obtain ⟨hp, X, G⟩ := h.hp
  exact He.glo_ok X G (h.says.fact i e)
theorem Fx.free (h : Fx fa fn ex K mg) (i : Nat) {x : Str} (e : fa[i]? = some (.free x) := by rfl) : mg x = none := by
  obtain ⟨hp, X, G⟩ := h.hp
  exact He.free_ok X G (h.says.fact i e)
theorem Fx.int (h : Fx fa fn ex K mg) (i : Nat) {x : Str} {n : Int} (e : fa[i]? = some (.int x n) := by rfl) : ∃ t, mg x = some (.int n t) := by
  obtain ⟨hp, X, G⟩ := h.hp
  exact He.int_ok X G (h.says.fact i e)
end
/-- a def by the head's word -/
theorem fn_of {C : Ctx} {P : Program} {w : World} {base : Heap} {k : Nat} {x qual : Str} {params : Arguments} {body : List Stmt} {scope : Scope} {f : Addr} {fd : FuncData} {N ps : List Str} {m : SM} (F : FunD C.K x qual params body scope [] [] f fd) (hm : C.mg x = some (.ref f)) (S : FnScope N ps scope) (hx : C.ex = none) (hb : Binds C.K fd ps [])
    (h : ∀ cdv, Body true C P w base N qual scope f cdv k body m) : Fn C P w base true x (k + 1) ps.length (mDef N.length m) := by
  have kp := F.kp
  obtain ⟨oc, od, dV, kV, doc, pm, an, cdv, ct, osl, rfl, lk, hcd, _, _⟩ := F.ex
  exact ⟨f, _, ps, hm, kp, hb, rfl, fn_pu lk hcd S hx (h cdv)⟩
/-- one called where an error is handled -/
theorem fnX_of {C : Ctx} {P : Program} {w : World} {base : Heap} {k : Nat} {x qual : Str} {params : Arguments} {body : List Stmt} {scope : Scope} {f : Addr} {fd : FuncData} {N ps : List Str} {m : SM} (F : FunD C.K x qual params body scope [] [] f fd) (hm : C.mg x = some (.ref f)) (S : FnScope N ps scope) (hb : Binds C.K fd ps [])
    (h : ∀ (cdv : Value) (A : Around) (outer : List PySem.Env) (s : Shared) (H : Hp) (E : XK) (p : Addr × Obj), Wh (L2H.cxH (L2.CX P w) P w C.K C.mg base N qual scope f cdv A outer s H E p) C k → PSs (L2H.cxH (L2.CX P w) P w C.K C.mg base N qual scope f cdv A outer s H E p) body (rS C W0 m)) : FnX C P w base x (k + 1) ps.length (mDefQ N.length m) := by
  have kp := F.kp
  obtain ⟨oc, od, dV, kV, doc, pm, an, cdv, ct, osl, rfl, lk, hcd, _, _⟩ := F.ex
  exact ⟨f, _, ps, hm, kp, hb, rfl, fn_hot lk hcd S (h cdv)⟩
/-- the law's own def -/
theorem law_of {C : Ctx} {P : Program} {w : World} {base : Heap} {k ip : Nat} {x y qual : Str} {params : Arguments} {st : Stmt} {rest : List Stmt} {scope : Scope} {f : Addr} {fd : FuncData} {N : List Str} {m1 m2 : SM} {ok : List Int → Prop} {pen0 : List Int → Pen} (F : FunD C.K x qual params (st :: rest) scope [] [] f fd) (S : FnScope N [y] scope) (hx : C.ex = none) (hp : C.pa = none) (hip : ip < N.length) (h1 : 1 ≤ N.length)
    (hb1 : ∀ (cdv : Value) (A : Around) (outer : List PySem.Env) (s : Shared) (H : Hp) (E : XK), Wk (cxOf (L2.CX P w) P w C.K C.mg base N qual scope f cdv A outer s H E) C (fun cls d _ H => E cls d H) true k → PS (cxOf (L2.CX P w) P w C.K C.mg base N qual scope f cdv A outer s H E) st (rS C (fun cls d _ H => E cls d H) m1))
    (hb2 : ∀ (cdv : Value) (a l : Addr) (A : Around) (outer : List PySem.Env) (s : Shared) (H : Hp) (E : XK), Wk (cxOf (L2.CX P w) P w C.K C.mg base N qual scope f cdv A outer s H E) (C.withPen a l) (fun cls d _ H => E cls d H) true k → PSs (cxOf (L2.CX P w) P w C.K C.mg base N qual scope f cdv A outer s H E) rest (rS (C.withPen a l) (fun cls d _ H => E cls d H) m2))
    (hm1 : ∀ ns, ok ns → m1 (env0 N.length [.scr ns]) emptyPen = .next ((env0 N.length [.scr ns]).set ip (.val (.dct (penDs (pen0 ns))))) emptyPen)
    (hm2 : ∀ ns, ok ns → ∃ q, m2 (envL N.length ip) (pen0 ns) = .ret (.bl true) q) : FnA true P w C.K C.mg base (L2.CX P w) (k + 1) f fd [y] (spLaw C ok) := by
  obtain ⟨oc, od, dV, kV, doc, pm, an, cdv, ct, osl, rfl, lk, hcd, _, _⟩ := F.ex
  exact fn_law lk hcd S hx hp hip h1 (hb1 cdv) (hb2 cdv) hm1 hm2

/-! ### exceptions by the head's word -/
def exB (K : PySem.W.Frag) (x : Str) (ns : List Str) : Bool := oexB K (He.ga K x) && (ns.all (fun f => He.eqO (PySem.W.findIn K (.ref (He.ga K x)) f) (some none)) && (He.eqO (PySem.W.findIn K (.ref (He.ga K x)) "__init__") (some (some (.ref (He.ma K (He.ga K x) "__init__")))) && decide (PySem.W.typeIn K (.ref (He.ma K (He.ga K x) "__init__")) = some (.type "function"))))
theorem excD_of {C : Ctx} {P : Program} {w : World} {base : Heap} {k : Nat} {x : Str} {ns : List Str} {fd : FuncData} (h : exB C.K x ns = true) (hm : C.mg x = some (.ref (He.ga C.K x))) (hb : Binds C.K fd ("self" :: ns) []) (F : FnOk P w C.K C.mg base CX0 k (He.ma C.K (He.ga C.K x) "__init__") fd ("self" :: ns) (spI C.K (He.ga C.K x) ns)) : ExcD C P w base x ns k := by
  unfold exB at h
  rw [Bool.and_eq_true, Bool.and_eq_true, Bool.and_eq_true, decide_eq_true_eq] at h
  exact ⟨_, _, fd, hm, oexB_ok h.1, fun f hf => He.eqO_ok (List.all_eq_true.mp h.2.1 f hf), He.eqO_ok h.2.2.1, h.2.2.2, hb, F⟩
theorem excN_of {fa : List He.Fa} {fn : List He.DefD} {ex : PySem.W.Frag → Bool} {C : Ctx} {x : Str} (h : Fx fa fn ex C.K C.mg) (hm : C.mg x = some (.ref (He.ga C.K x))) (i : Nat) (e : fa[i]? = some (.exc x) := by rfl) : ExcN C x := by
  obtain ⟨h1, h2, h3, h4⟩ := He.exc_ok (h.says.fact i e)
  exact ⟨_, hm, h1, h2, h3, h4⟩

/-! ### isinstance by tables -/
def baseTags : List String := ["NoneType", "bool", "int", "str", "tuple", "list", "dict"]
def askT (cl : List Str) (tys : List String) (sub : Str → Str → Bool) (isT : Str → String → Bool) : Ask := fun t k => match t, k with
  | .inl a, .ty b => kitB a b
  | .inl a, .fn c => if c ∈ cl ∧ a ∈ baseTags then some false else none
  | .inr c, .ty b => if c ∈ cl ∧ b ∈ tys then some (isT c b) else none
  | .inr c, .fn c' => if c ∈ cl ∧ c' ∈ cl then some (sub c c') else none
  | _, _ => none
def askB (K : PySem.W.Frag) (cl : List Str) (tys : List String) (sub : Str → Str → Bool) (isT : Str → String → Bool) : Bool :=
  (cl.all fun c => baseTags.all fun a => decide (PySem.W.kitOne K (.type a) (.ref (He.ga K c)) = some false)) && ((cl.all fun c => tys.all fun b => decide (PySem.W.kitOne K (.ref (He.ga K c)) (.type b) = some (isT c b))) &&
    cl.all fun c => cl.all fun c' => decide (PySem.W.kitOne K (.ref (He.ga K c)) (.ref (He.ga K c')) = some (sub c c')))
theorem askT_c {cl : List Str} {tys : List String} {sub : Str → Str → Bool} {isT : Str → String → Bool} : AskC (askT cl tys sub isT) := fun t k b e => by
  unfold askT at e
  split at e
  · exact .inl ⟨_, rfl⟩
  · exact .inr ⟨_, rfl⟩
  · exact .inl ⟨_, rfl⟩
  · exact .inr ⟨_, rfl⟩
  · cases e
theorem askT_ok {C : Ctx} {cl : List Str} {tys : List String} {sub : Str → Str → Bool} {isT : Str → String → Bool} (h : askB C.K cl tys sub isT = true) (hm : ∀ c ∈ cl, C.mg c = some (.ref (He.ga C.K c))) : AskOk C (askT cl tys sub isT) := by
  unfold askB at h
  rw [Bool.and_eq_true, Bool.and_eq_true] at h
  obtain ⟨h1, h2, h3⟩ := h
  have at_ : ∀ {c cA}, c ∈ cl → C.mg c = some (.ref cA) → cA = He.ga C.K c := fun {c cA} hc e => by
    rw [hm c hc] at e
    cases e
    rfl
  refine ⟨fun t k b e tv ht v u hu => ?_⟩
  unfold askT at e
  split at e
  · cases ht
    cases hu
    exact kit_ty e
  · split at e
    · rename_i hc
      cases e
      cases ht
      cases hu with
      | own m =>
        rw [at_ hc.1 m]
        exact of_decide_eq_true (List.all_eq_true.mp (List.all_eq_true.mp h1 _ hc.1) _ hc.2)
    · cases e
  · split at e
    · rename_i hc
      cases e
      cases hu
      cases ht with
      | own m =>
        rw [at_ hc.1 m]
        exact of_decide_eq_true (List.all_eq_true.mp (List.all_eq_true.mp h2 _ hc.1) _ hc.2)
    · cases e
  · split at e
    · rename_i hc
      cases e
      cases ht with
      | own m =>
        cases hu with
        | own m2 =>
          rw [at_ hc.1 m, at_ hc.2 m2]
          exact of_decide_eq_true (List.all_eq_true.mp (List.all_eq_true.mp h3 _ hc.1) _ hc.2)
    · cases e
  · cases e
end Pu
end

section
set_option maxHeartbeats 2000000
namespace Pu
open PySem PySem.Spec PyProof.Rows L2

/-! ### a lambda handed to a def that calls it -/
def Ctx.clos (C : Ctx) (v : Addr × Addr × Str × Hp) : Ctx := { C with cl := some v }
/-- the def's own view of what it was given -/
abbrev gCx (X : Cx) (Ng : List Str) (qg : Str) (sg : Scope) (g : Addr) (cdg : Value) (s : Shared) (H : Hp) : Cx := cxOf C8.CX0 X.prog X.w X.K X.mg X.base Ng qg sg g cdg X.A X.stack s H C8.E0
section
variable {X : Cx} {pins : List (Addr × Obj)} {σ : St} {H : Hp} {s : Shared}
/-- x(), x the def's parameter: the lambda's body runs over the maker's slots; an error is wished for as the def wishes at its own slots -/
theorem act_clo {Ng : List Str} {qg nm : Str} {sg : Scope} {g f cl : Addr} {cdg pm ct : Value} {ps : Arguments} {body : Expr} {sc : Scope} {k i : Nat} {a : Str} {pn : List (Addr × Obj)} {xe : Value → Shared → Prop} {W : WX} {tb : XK → TE} {p1 p2 : Pos} (I : Inv X pins σ H s) (L : LamX.LamS X.env.scope sc) (nmE : nm = X.env.qual ++ "<lambda>")
    (ho : s.heap.get? f = some (PySem.W.kla_obj "<lambda>" nm ps body sc (cloFrom X.env.cells sc.names []) pm cl ct)) (hn : H f = none) (hs : f ∉ frs X.stack) (bind : bindArgs (PySem.W.kla_fn "<lambda>" nm ps body sc (cloFrom X.env.cells sc.names []) pm (.ref cl) ct) ⟨[], []⟩ = pure [])
    (tk : Takes ((gCx X Ng qg sg g cdg s H).tr pn xe) W) (room : Room (k + 1) (X.A.deeper (envOfC qg sg s.heap.objs.size g cdg)))
    (hb : ∀ (E : XK) (A : Around) (outer : List PySem.Env) (s2 : Shared) (H2 : Hp), Room k (A.deeper (LamX.lamEnv X sc s2.heap.objs.size f cl)) → A.guards = X.A.guards → PE (LamX.lamCx X A outer s2 H2 E sc f cl) body (tb E))
    (hN : Ng[i]? = some a) (hv : Vis sg a) (n1 : (a == ("__debug__" : Str)) = false := by decide) (n2 : (a == ("__classdict__" : Str)) = false := by decide) :
    PE ((gCx X Ng qg sg g cdg s H).tr pn xe) (.Call (.Name a p1) [] [] p2) (fun σZ HZ Q => σZ[i]? = some (some (.ref f)) ∧ (HZ cl = some (LamX.CodeO cl nm) ∧ tb (fun cls dd H' => W cls dd σZ H') σ HZ Q)) := by
  subst nmE
  refine ⟨fun pinsZ sZ σZ HZ Q IZ h => ?_⟩
  obtain ⟨h1, h2, h3⟩ := h
  have var := (pe_var (X := (gCx X Ng qg sg g cdg s H).tr pn xe) (pos := p1) (i := i) hN hv n1 n2).run pinsZ sZ σZ HZ (fun v H1 => v = .ref f ∧ H1 = HZ) IZ ⟨_, h1, rfl, rfl⟩
  refine wpAny_Call_Name_kw (thn var fun u z ⟨v, H1, J, rv, e1, e2⟩ => ?_)
  subst e1
  rw [e2] at J
  obtain rfl : u = Value.ref f := rv
  have there : z.heap.get? f = some (PySem.W.kla_obj "<lambda>" (X.env.qual ++ "<lambda>") ps body sc (cloFrom X.env.cells sc.names []) pm cl ct) := J.base.keep f _ ho hn hs fun q => nomatch (show f ∈ ([] : List Addr) from q)
  refine PySem.W.callWith_F0 ⟨_, _, _, _, there⟩ ?_
  have un : Un (frs X.stack) [] H HZ s.heap z.heap := J.base
  obtain ⟨⟨oc, us, t, k1, k2, k3⟩, _, _⟩ := J.hok cl _ h2
  let E : XK := fun cls dd H' => W cls dd σZ H'
  have goes : codeAny (model X.prog X.w) (X.A.deeper (envOfC qg sg s.heap.objs.size g cdg)) (.call (.ref f) ⟨[], []⟩) (CR (L2.CX X.prog X.w) (envOfC qg sg s.heap.objs.size g cdg :: X.stack) X.prog X.w HZ z Q E) z := by
    refine PySem.W.kla_callFunE room.depth there rfl L.co L.gen rfl ⟨cl, oc, us, t, rfl, k1, k2, k3⟩ ?_
    rw [bind]
    refine wpAny_pure (wpAny_newFunctionEnv (fun y hy => (L.own y hy).2) (fun y hy => absurd hy List.not_mem_nil) (fun h1 ns sb => ⟨J.nolimit.fresh _ sb, ?_⟩) L.kind)
    have kp : ∀ b o, z.heap.get? b = some o → h1.get? b = some o := fun b o e => sb.extBut b o (Nat.ne_of_lt (Heap.lt_size e)) (Heap.get?_push_of_some _ e)
    have J2 := LamX.lam_start2 (A := X.A.deeper (envOfC qg sg s.heap.objs.size g cdg)) (outer := envOfC qg sg s.heap.objs.size g cdg :: X.stack) (E := E) (f := f) (c' := cl) (tk := z.toks + ([] : List (Str × Value)).length) I L J.env0 room.hd un ns kp
    refine PySem.W.kla_codeExpr (wpAny_mono ((hb E _ _ z HZ (room.deeper _) rfl).run [] _ _ HZ Q J2 h3) (fun v z2 q => ?_) fun _ _ q => q)
    obtain ⟨w', H', J', rv2, q2⟩ := q
    exact ⟨w', H', J'.os, J'.bare, J'.base, J'.hok, rv2, q2⟩
  refine wpAny_call (codeAny_mono goes fun res z2 q => ?_)
  cases res with
  | error er => exact tk er z2 (XE.of_call J (fun cls dd H2 h => h) q)
  | ok fl => cases fl with
    | ret u => exact J.after q
    | next => exact q.elim
    | brk => exact q.elim
    | cont => exact q.elim
end
end Pu
end

section
set_option maxHeartbeats 2000000
namespace Pu
open PySem PySem.Spec PyProof.Rows L2

/-! ### a lambda made -/
/-- the heap behind it: but for the table nothing old has changed -/
structure Made (T : List (Addr × Str)) (nm : Str) (P : Addr) (H H1 : Hp) (f cl : Addr) : Prop where
  kee : ∀ b o, H b = some o → b ≠ P → H1 b = some o
  tbl : ∃ ps, H P = some (.tbl ps)
  fre : ∀ b, H1 b = none → H b = none
  tab : LamX.Tabs T H1
  fn : H1 f = none
  co : H1 cl = some (LamX.CodeO cl nm)
section
variable {X : Cx} {pins : List (Addr × Obj)} {σ : St} {H : Hp} {s : Shared}
theorem lam_new {T : List (Addr × Str)} {c P : Addr} {nm : Str} {ps : Arguments} {body : Expr} {sc : Scope} {pos : Pos} {E Q : Value → Shared → Prop} (nmE : nm = X.env.qual ++ "<lambda>") (I : Inv X pins σ H s) (TB : LamX.TabB X.base X.mg c P) (hcode : X.env.code = .ref c) (hm : (P, nm) ∈ T) (hu : ∀ p ∈ T, p.1 = P → p.2 = nm) (hT : LamX.Tabs T H)
    (hdef : defaultsOf ps X.env = ([], [])) (hfree : ∀ y ∈ sc.names, y.2 = .free → ∃ c, X.env.cells.lookup y.1 = some c)
    (h : ∀ (f cl : Addr) (pm ct : Value) (H1 : Hp) (z : Shared), Inv X pins σ H1 z → Made T nm P H H1 f cl → z.heap.get? f = some (PySem.W.kla_obj "<lambda>" nm ps body sc (cloFrom X.env.cells sc.names []) pm cl ct) → f ∉ frs X.stack → Q (.ref f) z) : wpAny (model X.prog X.w) X.A (eval (.Lambda ps body sc pos) X.env) Q E s := by
  subst nmE
  obtain ⟨tb, hP, ht, ha⟩ := hT _ hm
  have oP : s.heap.get? P = some { cls := .none, data := .fields tb } := I.hok P _ hP
  have out : ∀ b, s.heap.objs.size ≤ b → b ∉ frs X.stack := fun b hb m => (List.mem_cons.mp (I.stkSub _ m)).elim (fun e => absurd (Nat.lt_of_lt_of_le (e ▸ I.lt) hb) (Nat.lt_irrefl _)) (I.nofs hb)
  refine PySem.W.kla_eval hdef ?_
  cases hc : codeAmong pos tb.toList with
  | some cv =>
    obtain ⟨cl, rfl, hco⟩ := ha pos cv hc
    refine PySem.W.kla_makeFunctionHit (mg := X.mg) (closure_ok hfree) I.ok.glob (I.mod.glob.keeps I.bk) hcode (TB.code.keeps I.bk) oP ht hc (TB.bm.keeps I.bk) fun ct h' tk hx sz => ?_
    exact h _ cl _ ct H _ (I.kept fun b o e => Heap.get?_push_of_some _ (hx b o e)) ⟨fun _ _ e _ => e, ⟨tb, hP⟩, fun _ e => e, hT, I.hok.fresh sz, hco⟩ (Heap.get?_push_size _ rfl) (out _ sz)
  | none =>
    refine PySem.W.kla_makeFunction (mg := X.mg) (closure_ok hfree) I.ok.glob (I.mod.glob.keeps I.bk) hcode (TB.code.keeps I.bk) oP ht hc TB.gP (TB.bm.keeps I.bk) fun cl ct h' tk hx hge hlt hrec htb => ?_
    obtain ⟨cl2, oc, us, t, e1, e2, e3, e4⟩ := hrec
    cases e1
    have nC : H cl = none := I.hok.fresh hge
    have nPC : P ≠ cl := ne_of_none hP nC
    have sz : s.heap.objs.size ≤ h'.objs.size := Nat.le_trans hge (Nat.le_of_lt hlt)
    let H1 : Hp := upd (upd H P (.tbl (tb ++ #[rawInt pos.line, rawInt pos.col, .ref cl]))) cl (LamX.CodeO cl (X.env.qual ++ "<lambda>"))
    have k1 : ∀ b o, H b = some o → b ≠ P → H1 b = some o := fun b o e b2 => by
      have b1 : b ≠ cl := ne_of_none e nC
      show upd (upd H P _) cl _ b = _
      rw [upd_ne b1, upd_ne b2]
      exact e
    have k2 : ∀ b, H1 b = none → H b = none := fun b e => by
      have e : upd (upd H P (.tbl (tb ++ #[rawInt pos.line, rawInt pos.col, .ref cl]))) cl (LamX.CodeO cl (X.env.qual ++ "<lambda>")) b = none := e
      by_cases b1 : b = cl
      · rw [b1]
        exact nC
      · rw [upd_ne b1] at e
        by_cases b2 : b = P
        · rw [b2, upd_same] at e
          cases e
        · rw [upd_ne b2] at e
          exact e
    have eL : (tb ++ #[rawInt pos.line, rawInt pos.col, .ref cl]).toList = tb.toList ++ [rawInt pos.line, rawInt pos.col, .ref cl] := by simp
    have cl1 : H1 cl = some (LamX.CodeO cl (X.env.qual ++ "<lambda>")) := upd_same
    have tabs : LamX.Tabs T H1 := fun p hp => by
      by_cases hb : p.1 = P
      · rw [hu p hp hb, hb]
        refine ⟨tb ++ #[rawInt pos.line, rawInt pos.col, .ref cl], (upd_ne nPC).trans upd_same, by rw [eL]; exact PySem.TriplesOk_snoc _ _ _ _ ht, fun p' cv hcv => ?_⟩
        rw [eL] at hcv
        rcases LamX.among_app _ ht hcv with q | q
        · obtain ⟨c0, q1, q2⟩ := ha p' cv q
          exact ⟨c0, q1, k1 _ _ q2 fun z => by rw [z, hP] at q2; exact LamX.codeO_ne tb (Option.some.inj q2).symm⟩
        · exact ⟨cl, q, cl1⟩
      · obtain ⟨tp, a1, a2, a3⟩ := hT p hp
        refine ⟨tp, ((upd_ne (ne_of_none a1 nC)).trans (upd_ne hb)).trans a1, a2, fun p' cv hcv => ?_⟩
        obtain ⟨c0, q1, q2⟩ := a3 p' cv hcv
        exact ⟨c0, q1, k1 _ _ q2 fun z => by rw [z, hP] at q2; exact LamX.codeO_ne tb (Option.some.inj q2).symm⟩
    have J := LamX.inv_table (q := X.env.qual ++ "<lambda>") (t' := tk) (more := #[rawInt pos.line, rawInt pos.col, .ref cl]) (h' := h'.push (PySem.W.kla_obj "<lambda>" (X.env.qual ++ "<lambda>") ps body sc (cloFrom X.env.cells sc.names []) ((X.mg "__name__").getD .none) cl ct)) I hP
      (fun b o nb e => Heap.get?_push_of_some _ (hx b o nb e)) (Heap.get?_push_of_some _ htb) hge ⟨oc, us, t, Heap.get?_push_of_some _ e2, e3, e4⟩
    refine h _ cl _ ct H1 _ J ⟨k1, ⟨tb, hP⟩, k2, tabs, ?_, cl1⟩ (Heap.get?_push_size _ rfl) (out _ sz)
    have n1 : h'.objs.size ≠ cl := Nat.ne_of_gt hlt
    have n2 : h'.objs.size ≠ P := Nat.ne_of_gt (Nat.lt_of_lt_of_le (Heap.lt_size oP) sz)
    show upd (upd H P _) cl _ _ = none
    rw [upd_ne n1, upd_ne n2]
    exact I.hok.fresh sz
end
end Pu
end

section
set_option maxHeartbeats 2000000
namespace Pu
open PySem PySem.Spec PyProof.Rows L2

/-! ### g(lambda: body), g a def that calls what it got and lets no error out -/
section
variable {C : Ctx} {v0 : Addr × Addr × Str × Hp}
mutual
theorem Rep.clos (h0 : C.cl = none) {G : Hp} : ∀ {v : V} {d : D}, Rep C G v d → Rep (C.clos v0) G v d
  | _, _, .non => .non
  | _, _, .bl b => .bl b
  | _, _, .int i => .int i
  | _, _, .str x => .str x
  | _, _, .tup h r => .tup h (Reps.clos h0 r)
  | _, _, .lst h r => .lst h (Reps.clos h0 r)
  | _, _, .dct h r => .dct h (RepK.clos h0 r)
  | _, _, .obj m h r => .obj m h (RepF.clos h0 r)
  | _, _, .pen h => .pen h
  | _, _, .fn h => .fn h
  | _, _, .ty n => .ty n
  | _, _, .scr h => .scr h
  | _, _, .clo h s => by rw [h0] at h; cases h
  | _, _, .lam h g c => .lam h g c
  | _, _, .exc0 h m => .exc0 h m
  | _, _, .exc1 h m g r => .exc1 h m g (RepF.clos h0 r)
theorem Reps.clos (h0 : C.cl = none) {G : Hp} : ∀ {vs : List V} {ds : List D}, Reps C G vs ds → Reps (C.clos v0) G vs ds
  | _, _, .nil => .nil
  | _, _, .cons h t => .cons (Rep.clos h0 h) (Reps.clos h0 t)
theorem RepK.clos (h0 : C.cl = none) {G : Hp} : ∀ {vs : List (Key × V)} {ds : List (Key × D)}, RepK C G vs ds → RepK (C.clos v0) G vs ds
  | _, _, .nil => .nil
  | _, _, .cons h t => .cons (Rep.clos h0 h) (RepK.clos h0 t)
theorem RepF.clos (h0 : C.cl = none) {G : Hp} : ∀ {vs : List (Str × V)} {ds : List (Str × D)}, RepF C G vs ds → RepF (C.clos v0) G vs ds
  | _, _, .nil => .nil
  | _, _, .cons h t => .cons (Rep.clos h0 h) (RepF.clos h0 t)
end
mutual
def D.noC : D → Bool
  | .clo => false
  | .tup xs => D.noCs xs
  | .lst xs => D.noCs xs
  | .dct ks => D.noCk ks
  | .obj _ fs => D.noCf fs
  | .exc _ fs => D.noCf fs
  | .non => true
  | .bl _ => true
  | .int _ => true
  | .str _ => true
  | .pen => true
  | .fn _ => true
  | .ty _ => true
  | .scr _ => true
  | .lam _ => true
def D.noCs : List D → Bool
  | [] => true
  | x :: xs => x.noC && D.noCs xs
def D.noCk : List (Key × D) → Bool
  | [] => true
  | (_, x) :: xs => x.noC && D.noCk xs
def D.noCf : List (Str × D) → Bool
  | [] => true
  | (_, x) :: xs => x.noC && D.noCf xs
end
mutual
theorem Rep.unclos {G : Hp} : ∀ {v : V} {d : D}, Rep (C.clos v0) G v d → d.noC = true → Rep C G v d
  | _, _, .non, _ => .non
  | _, _, .bl b, _ => .bl b
  | _, _, .int i, _ => .int i
  | _, _, .str x, _ => .str x
  | _, _, .tup h r, e => .tup h (Reps.unclos r (by simpa only [D.noC] using e))
  | _, _, .lst h r, e => .lst h (Reps.unclos r (by simpa only [D.noC] using e))
  | _, _, .dct h r, e => .dct h (RepK.unclos r (by simpa only [D.noC] using e))
  | _, _, .obj m h r, e => .obj m h (RepF.unclos r (by simpa only [D.noC] using e))
  | _, _, .pen h, _ => .pen h
  | _, _, .fn h, _ => .fn h
  | _, _, .ty n, _ => .ty n
  | _, _, .scr h, _ => .scr h
  | _, _, .clo h s, e => by simp [D.noC] at e
  | _, _, .lam h g c, _ => .lam h g c
  | _, _, .exc0 h m, _ => .exc0 h m
  | _, _, .exc1 h m g r, e => .exc1 h m g (RepF.unclos r (by simpa only [D.noC] using e))
theorem Reps.unclos {G : Hp} : ∀ {vs : List V} {ds : List D}, Reps (C.clos v0) G vs ds → D.noCs ds = true → Reps C G vs ds
  | _, _, .nil, _ => .nil
  | _, _, .cons h t, e => by
    simp only [D.noCs, Bool.and_eq_true] at e
    exact .cons (Rep.unclos h e.1) (Reps.unclos t e.2)
theorem RepK.unclos {G : Hp} : ∀ {vs : List (Key × V)} {ds : List (Key × D)}, RepK (C.clos v0) G vs ds → D.noCk ds = true → RepK C G vs ds
  | _, _, .nil, _ => .nil
  | _, _, .cons h t, e => by
    simp only [D.noCk, Bool.and_eq_true] at e
    exact .cons (Rep.unclos h e.1) (RepK.unclos t e.2)
theorem RepF.unclos {G : Hp} : ∀ {vs : List (Str × V)} {ds : List (Str × D)}, RepF (C.clos v0) G vs ds → D.noCf ds = true → RepF C G vs ds
  | _, _, .nil, _ => .nil
  | _, _, .cons h t, e => by
    simp only [D.noCf, Bool.and_eq_true] at e
    exact .cons (Rep.unclos h e.1) (RepF.unclos t e.2)
end
theorem Ext.unclos {G H G' H' : Hp} (h0 : C.cl = none) (x : Ext (C.clos v0) G H G' H') : Ext C G H G' H' := ⟨x.sub, x.gro, x.new, x.kee, x.fre, ⟨x.tab.tabs, x.tab.sm, fun f c q Gc e => by rw [h0] at e; cases e⟩⟩
end
/-- the maker's slots as the lambda may see them: what is frozen -/
def frzE (env : Env) : Env := env.map fun s => match s with
  | .val d => .val d
  | _ => .un
/-- the call of what was given -/
def mClo (i : Nat) (cb : Pen → Out D) : EM := fun env p => match env[i]? with
  | some (.val .clo) => cb p
  | _ => .bad
/-- g's mirror by what it was given -/
abbrev BM := (Pen → Out D) → SM
def mLam (n : Nat) (bg : BM) (mb : EM) : EM := fun env p => ((bg (fun q => mb (frzE env) q) (env0 n [.clo]) p).fin.ne).bind fun d q => if d.noC = true then .ok d q else .bad
theorem LOk.frzE {C : Ctx} {G H : Hp} {σ : St} {env : Env} {p : Pen} (L : LOk C G H σ env p) {v0 : Addr × Addr × Str × Hp} (h0 : C.cl = none) {G' H' : Hp} {q : Pen} (s1 : Sub G G') (s2 : Sub G' H') (t : Tb (C.clos v0) H') (n : NT C G') (y : PenAt C G' H' q) : LOk (C.clos v0) G' H' σ (frzE env) q := by
  refine ⟨s2, t, y, by unfold Pu.frzE; rw [List.length_map]; exact L.len, fun i x s h1 h2 => ?_, fun i j ds es a h1 _ _ _ => ?_, n⟩
  · unfold Pu.frzE at h2
    rw [List.getElem?_map] at h2
    cases e : env[i]? with
    | none =>
      rw [e] at h2
      cases h2
    | some s' =>
      rw [e] at h2
      have z := L.slot i x s' h1 e
      cases z with
      | un =>
        cases h2
        exact .un _
      | val r =>
        cases h2
        exact .val ((r.mono s1).clos h0)
      | own h n r =>
        cases h2
        exact .un _
  · unfold Pu.frzE at h1
    rw [List.getElem?_map] at h1
    cases e : env[i]? with
    | none =>
      rw [e] at h1
      cases h1
    | some s' =>
      rw [e] at h1
      cases s' <;> cases h1
section
variable {X : Cx} {C : Ctx} {W : WX}
/-- what is asked of the def that gets the lambda -/
def Gets (X : Cx) (C : Ctx) (Ng : List Str) (qg : Str) (sg : Scope) (g : Addr) (cdg : Value) (bodyg : List Stmt) (a : Str) (k : Nat) (bg : BM) : Prop :=
  ∀ (s : Shared) (H : Hp) (v : Addr × Addr × Str × Hp) (cb : Pen → Out D), (∀ (W : WX) (pn : List (Addr × Obj)) (xe : Value → Shared → Prop) (p1 p2 : Pos), Takes ((gCx X Ng qg sg g cdg s H).tr pn xe) W → PE ((gCx X Ng qg sg g cdg s H).tr pn xe) (.Call (.Name a p1) [] [] p2) (rE (C.clos v) W (mClo 0 cb))) →
    Wk (gCx X Ng qg sg g cdg s H).nox (C.clos v) W0 true k → PSs (gCx X Ng qg sg g cdg s H).nox bodyg (rS (C.clos v) W0 (bg cb))
theorem pm_lam {x a nm : Str} {fd : FuncData} {g c P : Addr} {k j : Nat} {pg : Arguments} {bodyg : List Stmt} {sg : Scope} {Ng : List Str} {ps : Arguments} {body : Expr} {sc : Scope} {p lpos pos : Pos} {bg : BM} {mb : EM} (w : Wk X C W true j) (hcl : C.cl = none) (hkj : k + 2 ≤ j) (F : FunD C.K x x pg bodyg sg [] [] g fd) (hm : C.mg x = some (.ref g)) (hb : Binds C.K fd [a] []) (Sg : FnScope Ng [a] sg) (hNg : Ng[0]? = some a) (hva : Vis sg a)
    (hG : ∀ cdg, Gets X C Ng x sg g cdg bodyg a (k + 1) bg)
    (nmE : nm = X.env.qual ++ "<lambda>") (TB : LamX.TabB X.base X.mg c P) (hcode : X.env.code = .ref c) (hmT : (P, nm) ∈ C.T) (hu : ∀ p ∈ C.T, p.1 = P → p.2 = nm) (L : LamX.LamS X.env.scope sc) (hdef : defaultsOf ps X.env = ([], []))
    (hbind : ∀ (q : Str) (cl : List (Str × Addr)) (pm cv ctv : Value), bindArgs (PySem.W.kla_fn "<lambda>" q ps body sc cl pm cv ctv) ⟨[], []⟩ = pure [])
    (hbody : ∀ (v : Addr × Addr × Str × Hp) (A : Around) (outer : List PySem.Env) (s : Shared) (H : Hp) (E : XK) (f c' : Addr), Wk (LamX.lamCx X A outer s H E sc f c') (C.clos v) (fun cls d _ H => E cls d H) true k → PE (LamX.lamCx X A outer s H E sc f c') body (rE (C.clos v) (fun cls d _ H => E cls d H) mb))
    (hg : Gl X x := by rfl) (hdb : (x == ("__debug__" : Str)) = false := by decide) (hd : (a == ("__debug__" : Str)) = false := by decide) (hcd : (a == ("__classdict__" : Str)) = false := by decide) :
    PE X (.Call (.Name x p) [.Lambda ps body sc lpos] [] pos) (rE C W (mLam Ng.length bg mb)) := by
  refine ⟨fun pins s σ H Q I ⟨G, env, p0, Lk, o⟩ => ?_⟩
  have kp := F.kp
  rw [w.K] at kp hb
  have hm1 : X.mg x = some (.ref g) := by rw [← w.mg]; exact hm
  obtain ⟨oc, od, dV, kV, doc, pm0, an, cdg, ct0, osl, rfl, lk, hcg, _, _⟩ := F.ex
  rw [w.K] at lk hcg
  refine wpAny_Call_Name_kw (ld_glob I hg hm1 ?_ hdb)
  refine PySem.W.callWith_K (h₀ := X.base) I.ok.mod.kin kp ?_ (by rfl) (by rfl)
  show wpAny _ _ (spliced ((false, eval (.Lambda ps body sc lpos) X.env) :: backTo pos (starEach [] X.env))) _ _ s
  refine Calls.spliced_cons (lam_new nmE I TB hcode hmT hu Lk.tab.tabs hdef (L.has I.ok) fun f cl pm ct H1 z I1 M ho hfr => ?_)
  refine Calls.spliced_nil ⟨I1.kIn, ?_⟩
  let v : Addr × Addr × Str × Hp := (f, cl, nm, G)
  have nP : ∀ b u, H b = some u → (∀ ps, u ≠ .tbl ps) → b ≠ P := fun b u e n z => by
    obtain ⟨tp, q⟩ := M.tbl
    rw [z, q] at e
    cases e
    exact n tp rfl
  have sub1 : Sub G H1 := fun b u e => M.kee b u (Lk.sub b u e) fun z => by
    have q := Lk.nt _ hmT
    rw [← z, e] at q
    cases q
  · have tab1 : Tb (C.clos v) H1 := ⟨M.tab, Lk.tab.sm.elim fun o h => h.elim fun u q => ⟨o, u, M.kee _ _ q (nP _ _ q fun _ z => by cases z)⟩, fun f' c' q' Gc e => by
      have e' : (f, cl, nm, G) = (f', c', q', Gc) := Option.some.inj e
      cases e'
      exact M.co⟩
    have pen1 : PenAt (C.clos v) G H1 p0 := fun b e => by
      obtain ⟨q1, q2, q3⟩ := Lk.pen b e
      exact ⟨q1, M.kee _ _ q2 (nP _ _ q2 fun _ z => by cases z), q3⟩
    have ext1 : Ext C G H G H1 := ⟨sub1, Sub.refl _, fun _ _ e => .inl e, fun b u e _ n2 => M.kee b u e (nP b u e n2), M.fre, ⟨tab1.tabs, tab1.sm, fun f c q Gc e => by rw [hcl] at e; cases e⟩⟩
    have rv : Reps (C.clos v) G [V.ref f] [.clo] := .cons (.clo rfl (Sub.refl _)) .nil
    have goes : codeAny (model X.prog X.w) X.A (.call (.ref g) ⟨[.ref f], []⟩) (CR C8.CX0 X.stack X.prog X.w H1 z Q C8.E0) z := by
      refine LamX.run_ofS (N := Ng) (ps := [a]) (us := [.ref f]) (vs := [.ref f]) lk hcg Sg (w.room.mono hkj) I1.env0 (hb z [.ref f] I1.kIn rfl) (.cons rfl .nil) rfl fun room => ?_
      have wk : Wk (gCx X Ng x sg g cdg z H1).nox (C.clos v) W0 true (k + 1) := ⟨w.K, w.mg, room, w.gd, takes0, w.cold⟩
      have act : ∀ (W : WX) (pn : List (Addr × Obj)) (xe : Value → Shared → Prop) (p1 p2 : Pos), Takes ((gCx X Ng x sg g cdg z H1).tr pn xe) W → PE ((gCx X Ng x sg g cdg z H1).tr pn xe) (.Call (.Name a p1) [] [] p2) (rE (C.clos v) W (mClo 0 fun q => mb (frzE env) q)) := fun W pn xe p1 p2 tk => by
        have base := act_clo (i := 0) (tb := fun E => rE (C.clos v) (fun cls d _ H => E cls d H) mb) (p1 := p1) (p2 := p2) I1 L nmE ho M.fn hfr (hbind _ _ _ _ _) tk room (fun E A outer s2 H2 rm gd => hbody v A outer s2 H2 E f cl ⟨w.K, w.mg, rm, fun _ => gd.trans (w.gd rfl), takes_of rfl rfl rfl rfl, w.cold⟩) hNg hva hd hcd
        refine base.of fun σZ HZ Q' ⟨G', envZ, q, LZ, oz⟩ => ?_
        unfold mClo at oz
        split at oz
        · rename_i hi
          obtain ⟨u, u1, u2⟩ := LZ.val hi
          cases u2 with
          | @clo f2 c2 q2 Gc e sG =>
            have e' : (f, cl, nm, G) = (f2, c2, q2, Gc) := Option.some.inj e
            cases e'
            exact ⟨u1, LZ.tab.co _ _ _ _ rfl, G', frzE env, q, Lk.frzE hcl sG LZ.sub LZ.tab LZ.nt LZ.pen, oz.imp (fun d q2 z2 => z2) fun er q2 z2 => z2⟩
        · exact oz.elim
      refine ⟨_, (hG cdg z H1 v (fun q => mb (frzE env) q) act wk).nox, G, H1, G, env0 Ng.length [.clo], p0, start_sok sub1 tab1 Lk.nt pen1 rv, ?_⟩
      have o1 := OutP.bind o
      cases e : bg (fun q => mb (frzE env) q) (env0 Ng.length [.clo]) p0 with
      | next env2 q2 =>
        rw [e] at o1
        exact fun σ' G' H' S' _ => o1 .non G' H' (ext1.trans (S'.x.unclos hcl)) S'.l.pen .non
      | ret d q2 =>
        rw [e] at o1
        have o2 : OutP (if d.noC = true then .ok d q2 else .bad) _ _ := o1
        split at o2
        · rename_i nc
          exact fun v G' H' x' y' r' => o2 v G' H' (ext1.trans (x'.unclos hcl)) y' (r'.unclos nc)
        · exact o2.elim
      | err er env2 q2 =>
        rw [e] at o1
        exact (show False from o1).elim
      | brk env2 q2 =>
        rw [e] at o1
        exact (show False from o1).elim
      | cnt env2 q2 =>
        rw [e] at o1
        exact (show False from o1).elim
      | bad =>
        rw [e] at o1
        exact (show False from o1).elim
    refine wpAny_call (codeAny_mono goes fun res s2 hq => ?_)
    cases res with
    | error e => exact (show False from hq).elim
    | ok fl => cases fl with
      | ret u => exact I1.after hq
      | next => exact hq.elim
      | brk => exact hq.elim
      | cont => exact hq.elim
end
end Pu
end

section
set_option maxHeartbeats 2000000
namespace Pu
open PySem PySem.Spec PyProof.Rows L2

/-! ### instances of own classes -/
def putD (f : Str) (d : D) : List (Str × D) → List (Str × D)
  | [] => [(f, d)]
  | (g, x) :: r => if g = f then (g, d) :: r else (g, x) :: putD f d r
theorem RepF.put {C : Ctx} {G : Hp} {f : Str} {v : V} {d : D} (h : Rep C G v d) : ∀ {vs : List (Str × V)} {ds : List (Str × D)}, RepF C G vs ds → RepF C G (putF f v vs) (putD f d ds)
  | _, _, .nil => .cons h .nil
  | _, _, .cons (k := k) h1 t => by
    unfold putF putD
    by_cases c : k = f
    · rw [if_pos c, if_pos c]
      exact .cons h t
    · rw [if_neg c, if_neg c]
      exact .cons h1 (RepF.put h t)
theorem RepF.len {C : Ctx} {G : Hp} : ∀ {vs : List (Str × V)} {ds : List (Str × D)}, RepF C G vs ds → vs.length = ds.length
  | _, _, .nil => rfl
  | _, _, .cons _ t => by rw [List.length_cons, List.length_cons, RepF.len t]
/-- an instance that is being made: it stands in the heap, it is not frozen -/
structure Slf (C : Ctx) (G H : Hp) (a cA dx : Addr) (fvs : List (Str × V)) : Prop where
  at_ : H a = some (.ins cA dx fvs)
  free : G a = none
section
variable {C : Ctx} {G G0 H0 H G' H' : Hp} {σ : St} {env : Env} {p q : Pen} {a cA dx : Addr} {fvs gvs : List (Str × V)}
theorem Slf.step (S : Slf C G H a cA dx fvs) (y : PenAt C G H p) (x : Ext C G H G' H') : Slf C G' H' a cA dx fvs := by
  have h : H' a = some (.ins cA dx fvs) := x.kee _ _ S.at_ (fun e => by
    obtain ⟨_, w, _⟩ := y a e
    rw [S.at_] at w
    cases w) fun _ z => by cases z
  refine ⟨h, ?_⟩
  cases e : G' a with
  | none => rfl
  | some o =>
    rcases x.new a o e with z | z | ⟨q, z⟩
    · rw [S.free] at z
      cases z
    · rw [S.at_] at z
      cases z
    · rw [x.sub _ _ e, z] at h
      cases h
theorem tb_ins (t : Tb C H) (h : H a = some (.ins cA dx fvs)) (o : HO) : Tb C (upd H a o) := tb_put t h (fun _ z => by cases z) (fun c q z => by unfold LamX.CodeO at z; cases z) fun _ _ z => by cases z
/-- its fields are written -/
theorem LOk.ins (L : LOk C G H σ env p) (S : Slf C G H a cA dx fvs) : LOk C G (upd H a (.ins cA dx gvs)) σ env p := by
  refine ⟨fun b o e => ?_, tb_ins L.tab S.at_ _, fun b e => ?_, L.len, fun j x s q1 q2 => ?_, L.dis, L.nt⟩
  · rw [upd_ne (ne_of_none e S.free)]
    exact L.sub b o e
  · obtain ⟨k1, k2, k3⟩ := L.pen b e
    refine ⟨k1, ?_, k3⟩
    rw [upd_ne (ne_of k2 S.at_ (by intro w; cases w))]
    exact k2
  · have s0 := L.slot j x s q1 q2
    cases s0 with
    | un => exact .un _
    | val r => exact .val r
    | own w1 w2 w3 =>
      refine .own ?_ w2 w3
      rw [upd_ne (ne_of w1 S.at_ (by intro w; cases w))]
      exact w1
/-- steps of the heap in which it stands as it stood at first -/
theorem Ext.insBack (x : Ext C G0 H0 G (upd H a (.ins cA dx gvs))) (S : Slf C G H a cA dx fvs) (y : PenAt C G H p) (z : Ext C G H G' H') : Ext C G0 H0 G' (upd H' a (.ins cA dx gvs)) := by
  have S' := S.step y z
  refine ⟨fun b o e => ?_, x.gro.trans z.gro, fun b o e => ?_, fun b o e n1 n2 => ?_, fun b e => ?_, tb_ins z.tab S'.at_ _⟩
  · rw [upd_ne (ne_of_none e S'.free)]
    exact z.sub b o e
  · rcases z.new b o e with w | w | w
    · exact x.new b o w
    · have nb : b ≠ a := fun q => by
        rw [q, S.at_] at w
        cases w
      exact .inr (.inl (x.fre b (by rw [upd_ne nb]; exact w)))
    · exact .inr (.inr w)
  · have k := x.kee b o e n1 n2
    by_cases nb : b = a
    · subst nb
      rw [upd_same] at k ⊢
      exact k
    · rw [upd_ne nb] at k ⊢
      exact z.kee b o k n1 n2
  · by_cases nb : b = a
    · rw [nb, upd_same] at e
      cases e
    · rw [upd_ne nb] at e
      have k := z.fre b e
      exact x.fre b (by rw [upd_ne nb]; exact k)
end
/-- the fields' stores, one behind another -/
def mFlds : List (Str × EM) → List (Str × D) → Env → Pen → Out (List (Str × D))
  | [], fs, _, p => .ok fs p
  | (f, m) :: r, fs, env, p => (m env p).bind fun d q => mFlds r (putD f d fs) env q
/-- self.f = e, ..: self in slot 0, unknown to the layer -/
def rFlds (C : Ctx) (W : WX) (cA : Addr) (ms : List (Str × EM)) : TS := fun D σ H => ∃ G env p a dx fvs fs, LOk C G H σ env p ∧ σ[0]? = some (some (.ref a)) ∧ Slf C G H a cA dx fvs ∧ RepF C G fvs fs ∧ fs.length + ms.length ≤ 900 ∧
  OutP (mFlds ms fs env p) (fun fs' q => ∀ G' H' fvs', Ext C G (upd H a (.ins cA dx [])) G' (upd H' a (.ins cA dx [])) → Slf C G' H' a cA dx fvs' → RepF C G' fvs' fs' → PenAt C G' H' q → D.nx σ H')
    (fun e q => ∀ cls dd G' H' fvs', Ext C G (upd H a (.ins cA dx [])) G' (upd H' a (.ins cA dx [])) → Slf C G' H' a cA dx fvs' → PenAt C G' H' q → ErrRep C G' H' cls dd e → W cls dd σ H')
section
variable {X : Cx} {C : Ctx} {W : WX} {cA : Addr} {f x : Str} {e : Expr} {m : EM} {ms : List (Str × EM)} {rest : List Stmt} {p1 p2 pos : Pos}
theorem fl_nil : PSs X [] (rFlds C W cA []) := pss_nil.of fun D σ H ⟨G, env, p, a, dx, fvs, fs, L, h0, S, r, hl, o⟩ =>
  o G H fvs (Ext.refl (fun b u e => by rw [upd_ne (ne_of_none e S.free)]; exact L.sub b u e) (tb_ins L.tab S.at_ _)) S r L.pen
theorem fl_cons (hK : C.K = X.K) (hc : Cls C.K cA) (hn : NoAttr C.K cA f) (h : PE X e (rE C W m)) (hr : PSs X rest (rFlds C W cA ms)) (hN : X.N[0]? = some x := by rfl) (hv : Vis X.env.scope x := by first | exact Or.inl rfl | exact Or.inr (Or.inl rfl) | exact Or.inr (Or.inr rfl)) (hd : (x == ("__debug__" : Str)) = false := by decide)
    (hcd : (x == ("__classdict__" : Str)) = false := by decide) (hs : swapsWith e (some (.Attribute (.Name x p1) f p2)) pos.line X.env = pure false := by rfl) : PSs X (.Assign [.Attribute (.Name x p1) f p2] e pos :: rest) (rFlds C W cA ((f, m) :: ms)) :=
  (pss_cons (ps_fld (pe_var hN hv hd hcd) h hs) hr).of fun D σ H ⟨G, env, p, a, dx, fvs, fs, L, h0, S, r, hl, o⟩ => by
    have S1 : Ext C G (upd H a (.ins cA dx [])) G (upd H a (.ins cA dx [])) := Ext.refl (fun b u e => by rw [upd_ne (ne_of_none e S.free)]; exact L.sub b u e) (tb_ins L.tab S.at_ _)
    refine ⟨G, env, p, L, (OutP.bind o).imp (fun d q z v G1 H1 x1 y1 r1 => ?_) fun er q z cls dd G1 H1 x1 y1 r1 => z cls dd G1 H1 fvs (S1.insBack S L.pen x1) (S.step L.pen x1) y1 r1⟩
    have S2 := S.step L.pen x1
    have L1 := L.step x1 y1
    refine ⟨_, h0, a, cA, dx, fvs, rfl, S2.at_, by rw [← hK]; exact hc, by rw [← hK]; exact hn, by rw [r.len]; omega, ?_⟩
    have L2' := L1.ins (gvs := putF f v fvs) S2
    have Sn : Slf C G1 (upd H1 a (.ins cA dx (putF f v fvs))) a cA dx (putF f v fvs) := ⟨upd_same, S2.free⟩
    have lp : ∀ (fs : List (Str × Pu.D)), (putD f d fs).length ≤ fs.length + 1 := by
      intro fs
      induction fs with
      | nil => exact Nat.le_refl _
      | cons g t ih =>
        unfold putD
        split
        · rw [List.length_cons, List.length_cons]
          omega
        · rw [List.length_cons, List.length_cons]
          omega
    have lp1 := lp fs
    have hl' : fs.length + (ms.length + 1) ≤ 900 := hl
    have back : ∀ {G2 H2}, Ext C G1 (upd (upd H1 a (.ins cA dx (putF f v fvs))) a (.ins cA dx [])) G2 (upd H2 a (.ins cA dx [])) → Ext C G (upd H a (.ins cA dx [])) G2 (upd H2 a (.ins cA dx [])) := fun {G2 H2} x2 => by
      rw [upd_upd] at x2
      exact (S1.insBack S L.pen x1).trans x2
    exact ⟨G1, env, q, a, dx, _, _, L2', h0, Sn, (r.mono x1.gro).put r1, by omega, z.imp (fun fs' q2 z2 G2 H2 fvs' x2 s2 r2 y2 => z2 G2 H2 fvs' (back x2) s2 r2 y2) fun er q2 z2 cls dd G2 H2 fvs' x2 s2 y2 r2 => z2 cls dd G2 H2 fvs' (back x2) s2 y2 r2⟩
end
end Pu
end

section
set_option maxHeartbeats 2000000
namespace Pu
open PySem PySem.Spec PyProof.Rows L2

/-! ### __init__: checks, then fields; instances made -/
/-- what it gives: the fields -/
abbrev OF := Env → Pen → Out (List (Str × D))
def InP (C : Ctx) (W : WX) (G H : Hp) (σ : St) (a cA dx : Addr) (nx : List (Str × D) → Hp → Prop) (o : Out (List (Str × D))) : Prop :=
  OutP o (fun fs' q => ∀ G' H' fvs', Ext C G (upd H a (.ins cA dx [])) G' (upd H' a (.ins cA dx [])) → Slf C G' H' a cA dx fvs' → RepF C G' fvs' fs' → PenAt C G' H' q → nx fs' H')
    (fun e q => ∀ cls dd G' H' fvs', Ext C G (upd H a (.ins cA dx [])) G' (upd H' a (.ins cA dx [])) → Slf C G' H' a cA dx fvs' → PenAt C G' H' q → ErrRep C G' H' cls dd e → W cls dd σ H')
/-- before the fields -/
def rIn (C : Ctx) (W : WX) (cA : Addr) (n : Nat) (m : OF) : TS := fun D σ H => ∃ G env p a dx, LOk C G H σ env p ∧ (∀ (i : Nat) (ds : List Pu.D), env[i]? ≠ some (.own ds)) ∧ σ[0]? = some (some (.ref a)) ∧ Slf C G H a cA dx [] ∧ n ≤ 900 ∧
  InP C W G H σ a cA dx (fun _ H' => D.nx σ H') (m env p)
def mIn (ms : List (Str × EM)) : OF := mFlds ms []
theorem in_flds {X : Cx} {C : Ctx} {W : WX} {cA : Addr} {ms : List (Str × EM)} {ss : List Stmt} (h : PSs X ss (rFlds C W cA ms)) : PSs X ss (rIn C W cA ms.length (mIn ms)) := h.of fun D σ H ⟨G, env, p, a, dx, L, _, h0, S, hn, o⟩ =>
  ⟨G, env, p, a, dx, [], [], L, h0, S, .nil, by simpa using hn, o⟩
/-- if t: raise .. -/
def mChk (t : TM) (a : SM) (m : OF) : OF := fun env p => (t env p).bind fun k q => if k = true then (match a env q with
  | .err e _ q' => .err e q'
  | _ => .bad) else m env q
/-- f(e, ..) for its errors -/
def mDo (e : EM) (m : OF) : OF := fun env p => (e env p).bind fun _ q => m env q
section
variable {X : Cx} {C : Ctx} {W : WX} {cA : Addr} {n : Nat} {m : OF} {rest ss : List Stmt} {pos : Pos} {t e : Expr} {mt : TM} {me : EM} {a : SM}
theorem Slf.base {G H : Hp} {a cA dx : Addr} {fvs : List (Str × V)} (S : Slf C G H a cA dx fvs) : upd H a (.ins cA dx fvs) = H := by
  funext b
  by_cases h : b = a
  · rw [h, upd_same, S.at_]
  · rw [upd_ne h]
theorem InP.step {G H G1 H1 : Hp} {σ : St} {a cA dx : Addr} {nx : List (Str × D) → Hp → Prop} {o : Out (List (Str × D))} {p : Pen} (S : Slf C G H a cA dx []) (y : PenAt C G H p) (x : Ext C G H G1 H1) (h : InP C W G H σ a cA dx nx o) : InP C W G1 H1 σ a cA dx nx o := by
  have S1 := S.step y x
  unfold InP at h ⊢
  rw [S.base] at h
  rw [S1.base]
  exact h.imp (fun fs q z G' H' fvs x1 s1 r1 y1 => z G' H' fvs (x.trans x1) s1 r1 y1) fun e q z cls dd G' H' fvs x1 s1 y1 r1 => z cls dd G' H' fvs (x.trans x1) s1 y1 r1
theorem InP.bind {α : Type} {G H : Hp} {σ : St} {b cA dx : Addr} {nx : List (Str × D) → Hp → Prop} {o : Out α} {k : α → Pen → Out (List (Str × D))} {p : Pen} (S : Slf C G H b cA dx []) (y : PenAt C G H p) (h : InP C W G H σ b cA dx nx (o.bind k)) : OutP o (fun z q => InP C W G H σ b cA dx nx (k z q)) (ErrP C W G H σ) := by
  unfold InP at h
  refine (OutP.bind h).imp (fun z q w => w) fun er q z cls dd G1 H1 x1 y1 r1 => ?_
  have S1 := S.step y x1
  exact z cls dd G1 H1 [] (by rw [S.base, S1.base]; exact x1) S1 y1 r1
theorem in_if (ht : PT X t (rT C W mt)) (ha : PSs X ss (rS C W a)) (hr : PSs X rest (rIn C W cA n m)) (hW : ∀ cls d σ σ' H, W cls d σ H → W cls d σ' H := by exact fun _ _ _ _ _ h => h) : PSs X (.If t ss [] pos :: rest) (rIn C W cA n (mChk mt a m)) :=
  (pss_cons (ps_if ht ha pss_nil) hr).of fun D σ H ⟨G, env, p, x, dx, L, no, h0, S, hn, o⟩ => by
    refine ⟨G, env, p, L, (InP.bind S L.pen o).imp (fun k q z G1 H1 x1 y1 => ?_) fun _ _ z => z⟩
    have z := z.step S L.pen x1
    have S1 := S.step L.pen x1
    have L1 := L.step x1 y1
    cases k with
    | true =>
      simp only [if_pos] at z ⊢
      refine ⟨G1, H1, G1, env, q, ⟨L1, Ext.refl L1.sub L1.tab, fun i ds b h1 _ => absurd h1 (no i ds)⟩, ?_⟩
      cases r : a env q with
      | err er env' q' =>
        rw [r] at z
        intro cls dd σ' G' H' S' _ er'
        have S2 := S1.step L1.pen S'.x
        refine hW _ _ _ _ _ (z cls dd G' H' [] ?_ S2 S'.l.pen er')
        rw [S1.base, S2.base]
        exact S'.x
      | _ =>
        rw [r] at z
        exact z.elim
    | false =>
      exact ⟨G1, env, q, x, dx, L1, no, h0, S1, hn, z⟩
theorem in_do (h : PE X e (rB C W me)) (hr : PSs X rest (rIn C W cA n m)) (hs : swapsWith e none pos.line X.env = pure false := by rfl) : PSs X (.Expr e pos :: rest) (rIn C W cA n (mDo me m)) :=
  (pss_cons (ps_expr h hs) hr).of fun D σ H ⟨G, env, p, x, dx, L, no, h0, S, hn, o⟩ =>
    ⟨G, env, p, L, (InP.bind S L.pen o).imp (fun d q z v G1 H1 x1 y1 _ => ⟨G1, env, q, x, dx, L.step x1 y1, no, h0, S.step L.pen x1, hn, z.step S L.pen x1⟩) fun _ _ z => z⟩
end
end Pu
end

section
set_option maxHeartbeats 2000000
namespace Pu
open PySem PySem.Spec PyProof.Rows L2

/-! ### the promise of an __init__; C(e, ..) -/
abbrev IM := List D → Pen → Out (List (Str × D))
def spIn (C : Ctx) (cA : Addr) (m : IM) (n : Nat) : Sp := fun vs H Q E => ∃ a dx G ws ds p, vs = .ref a :: ws ∧ ws.length = n ∧ Sub G H ∧ Tb C H ∧ NT C G ∧ PenAt C G H p ∧ Slf C G H a cA dx [] ∧ Reps C G ws ds ∧
  OutP (m ds p) (fun fs' q => ∀ G' H' fvs', Ext C G (upd H a (.ins cA dx [])) G' (upd H' a (.ins cA dx [])) → Slf C G' H' a cA dx fvs' → RepF C G' fvs' fs' → PenAt C G' H' q → Q .non H')
    (fun e q => ∀ cls dd G' H' fvs', Ext C G (upd H a (.ins cA dx [])) G' (upd H' a (.ins cA dx [])) → Slf C G' H' a cA dx fvs' → PenAt C G' H' q → ErrRep C G' H' cls dd e → E cls dd H')
theorem spIn_len {C : Ctx} {cA : Addr} {m : IM} {n : Nat} {vs : List V} {H : Hp} {Q : VK} {E : XK} (h : spIn C cA m n vs H Q E) : vs.length = n + 1 := by
  obtain ⟨a, dx, G, ws, ds, p, rfl, h, _⟩ := h
  rw [List.length_cons, h]
def env1 (n : Nat) (ds : List D) : Env := (env0 n (.non :: ds)).set 0 .un
/-- an __init__'s mirror by its body's -/
def mDefI (n : Nat) (m : OF) : IM := fun ds p => m (env1 n ds) p
theorem start_in {C : Ctx} {G H : Hp} {N : List Str} {x : V} {vs : List V} {ds : List D} {p : Pen} (s : Sub G H) (t : Tb C H) (n : NT C G) (y : PenAt C G H p) (r : Reps C G vs ds) : LOk C G H (L2.start N (x :: vs)) (env1 N.length ds) p ∧ ∀ (i : Nat) (es : List D), (env1 N.length ds)[i]? ≠ some (.own es) := by
  have L := (start_ok (N := N) s t n y (.cons (.non) r)).setU 0 (v := some x)
  have e : (L2.start N (V.non :: vs)).set 0 (some x) = L2.start N (x :: vs) := by
    unfold L2.start
    rfl
  rw [e] at L
  refine ⟨L, fun i es h => ?_⟩
  obtain ⟨b, ws, h1, h2, h3, h4⟩ := L.own h
  unfold env1 at h
  rw [List.getElem?_set] at h
  split at h
  · split at h
    · cases h
    · cases h
  · unfold env0 at h
    by_cases hi : i < (D.non :: ds).length
    · rw [List.getElem?_append_left (by rw [List.length_map]; exact hi), List.getElem?_map, List.getElem?_eq_getElem hi] at h
      cases h
    · rw [List.getElem?_append_right (by rw [List.length_map]; omega), List.getElem?_replicate] at h
      split at h
      · cases h
      · cases h
theorem fn_in {gd : Bool} {C : Ctx} {P : Program} {w : World} {base : Heap} {k n : Nat} {f cA : Addr} {name qual : Str} {params : Arguments} {body : List Stmt} {scope : Scope} {dV kV doc pm cdv ct oc : Value} {an od : Option Addr}
    {osl : Array (Option Value)} {N ps : List Str} {s1 : Str} {m : OF} (lk : C.K.lookup f = some ⟨oc, od, .func (PySem.W.fnOf name qual params body scope dV kV doc pm an cdv ct), osl⟩) (hcd : PySem.W.codeIn C.K cdv qual = true) (S : FnScope N (s1 :: ps) scope) (hx : C.ex = none) (hn : n ≤ 900)
    (hb : ∀ (A : Around) (outer : List PySem.Env) (s : Shared) (H : Hp) (E : XK), Wk (cxOf (L2.CX P w) P w C.K C.mg base N qual scope f cdv A outer s H E) C (fun cls d _ H => E cls d H) gd k → PSs (cxOf (L2.CX P w) P w C.K C.mg base N qual scope f cdv A outer s H E) body (rIn C (fun cls d _ H => E cls d H) cA n m)) :
    FnA gd P w C.K C.mg base (L2.CX P w) (k + 1) f (PySem.W.fnOf name qual params body scope dV kV doc pm an cdv ct) (s1 :: ps) (spIn C cA (mDefI N.length m) ps.length) := by
  refine ⟨fun vs H Q E h => spIn_len h, fun A outer s H args us vs Q E hr hg e0 hbi r hsp => ?_⟩
  have hl := spIn_len hsp
  obtain ⟨a, dx, G, ws, ds, p, e1, hw, hs, ht, hnt, hy, hS, hr', ho⟩ := hsp
  refine LamX.run_ofS (CX := L2.CX P w) lk hcd S hr e0 hbi r hl fun room => ⟨_, hb A outer s H E ⟨rfl, rfl, room, hg, takes_of rfl rfl rfl rfl, hx⟩, G, env1 N.length ds, p, a, dx, ?_, ?_, ?_, hS, hn, ho⟩
  · rw [e1]
    exact (start_in hs ht hnt hy hr').1
  · exact (start_in (x := .ref a) hs ht hnt hy hr').2
  · rw [e1]
    rfl
/-- a class whose instances are made by its own __init__ -/
structure Ins (C : Ctx) (P : Program) (w : World) (base : Heap) (gd : Bool) (x : Str) (k n : Nat) (m : IM) : Prop where
  ex : ∃ (cA f : Addr) (fd : FuncData) (ps : List Str), C.mg x = some (.ref cA) ∧ Mk C.K cA f ∧ Binds C.K fd ps [] ∧ ps.length = n + 1 ∧ FnA gd P w C.K C.mg base (L2.CX P w) k f fd ps (spIn C cA m n)
def mMk (x : Str) (m : IM) (a : AM) : EM := fun env p => (a env p).bind fun ds q => (m ds q).bind fun fs q2 => .ok (.obj x fs) q2
theorem run_mkA {X : Cx} {gd : Bool} {k : Nat} {cA f : Addr} {fd : FuncData} {ps : List Str} {sp : Sp} {CX : CXT} {E : XK} {pins : List (Addr × Obj)} {σ : St} {H : Hp} {s : Shared} {Q : VK} {us : List Value} {vs : List V} (M : Mk X.K cA f) (F : FnA gd X.prog X.w X.K X.mg X.base CX k f fd ps sp) (hr : Room (k + 1) X.A) (hg : gd = true → X.A.guards = some [])
    (hb : Binds X.K fd ps []) (hx : ∀ (H1 : Hp) (s1 : Shared) (er : Value) (s' : Shared), Inv X pins σ H1 s1 → CX X.stack H1 s1 E er s' → X.xe er s') (I : Inv X pins σ H s) (r : Vals vs us)
    (h : ∀ x dx, H x = none → H dx = none → dx ≠ x → sp (.ref x :: vs) (upd (upd H dx (.own x)) x (.ins cA dx [])) (fun v H2 => v = .non ∧ Q (.ref x) H2) E) :
    wpAny (model X.prog X.w) X.A (call (.ref cA) us) (EP X pins σ Q) X.xe s := by
  have hq := h (s.heap.objs.size + 1) s.heap.objs.size (I.hok.fresh (Nat.le_succ _)) (I.hok.fresh (Nat.le_refl _)) (Nat.ne_of_lt (Nat.lt_succ_self _))
  have I2 := Inv.made (C := cA) I
  have r2 : Vals (V.ref (s.heap.objs.size + 1) :: vs) (Value.ref (s.heap.objs.size + 1) :: us) := .cons rfl r
  have hl : ((Value.ref (s.heap.objs.size + 1) :: us) ++ []).length = ps.length := by
    rw [List.append_nil, ← r2.length]
    exact F.len _ _ _ _ hq
  have b := hb _ (Value.ref (s.heap.objs.size + 1) :: us) I2.kIn hl
  rw [List.append_nil] at b
  have hg2 : gd = true → (X.A.under (.builtin "type.__call__" ⟨.ref cA :: us, []⟩)).guards = some [] := fun e => by
    have g := hg e
    simp [Around.under, Code.guards, Code.isGuard, guardIds, pushGuards, g]
  refine wpAny_call (make_map (f := f) I.kIn M.makes M.init (beq_iff_eq.mp M.fn) (codeAny_mono (F.run _ X.stack _ _ ⟨Value.ref (s.heap.objs.size + 1) :: us, []⟩ _ _ _ E (hr.make cA us []) hg2
    (I2.env0.make cA us []) b r2 hq) fun r s' hq' => ?_))
  cases r with
  | error e => exact hx _ _ e s' I2 hq'
  | ok fl =>
    cases fl with
    | ret u =>
      obtain ⟨v, H', I3, rv, ev, q3⟩ := I2.after hq'
      subst ev
      exact ⟨rv, ⟨V.ref (s.heap.objs.size + 1), H', I3, rfl, q3⟩⟩
    | next => exact False.elim hq'
    | brk => exact False.elim hq'
    | cont => exact False.elim hq'
section
variable {C : Ctx} {G H G' H' : Hp} {a cA dx : Addr} {fvs : List (Str × V)} {p q : Pen}
/-- the heap where it is made -/
theorem slf_new (hs : Sub G H) (ha : H a = none) : Slf C G (upd (upd H dx (.own a)) a (.ins cA dx [])) a cA dx [] := ⟨upd_same, by
  cases e : G a with
  | none => rfl
  | some o =>
    rw [hs a o e] at ha
    cases ha⟩
theorem ext_new (hs : Sub G H) (ht : Tb C H) (ha : H a = none) (hd : H dx = none) (n : dx ≠ a) : Ext C G H G (upd (upd H dx (.own a)) a (.ins cA dx [])) := by
  have keep : ∀ b o, H b = some o → (upd (upd H dx (.own a)) a (.ins cA dx [])) b = some o := fun b o e => by
    have n1 : b ≠ a := fun z => by
      rw [z, ha] at e
      cases e
    have n2 : b ≠ dx := fun z => by
      rw [z, hd] at e
      cases e
    rw [upd_ne n1, upd_ne n2]
    exact e
  refine ⟨fun b o e => keep b o (hs b o e), Sub.refl _, fun _ _ e => .inl e, fun b o e _ _ => keep b o e, fun b e => ?_, ht.ext keep⟩
  cases q : H b with
  | none => rfl
  | some o =>
    rw [keep b o q] at e
    cases e
/-- it joins the frozen heap -/
theorem ext_made (y : PenAt C G H p) (x : Ext C G H G' H') (S : Slf C G' H' a cA dx fvs) (h0 : H a = none) : Ext C G H (upd G' a (.ins cA dx fvs)) H' := by
  refine ⟨fun b o e => ?_, fun b o e => ?_, fun b o e => ?_, x.kee, x.fre, x.tab⟩
  · by_cases n : b = a
    · subst n
      rw [upd_same] at e
      cases e
      exact S.at_
    · rw [upd_ne n] at e
      exact x.sub b o e
  · have n : b ≠ a := fun z => by
      have := x.gro b o e
      rw [z, S.free] at this
      cases this
    rw [upd_ne n]
    exact x.gro b o e
  · by_cases n : b = a
    · subst n
      exact .inr (.inl h0)
    · rw [upd_ne n] at e
      exact x.new b o e
theorem pen_made (S : Slf C G' H' a cA dx fvs) (y : PenAt C G' H' q) : PenAt C (upd G' a (.ins cA dx fvs)) H' q := fun b e => by
  obtain ⟨h1, h2, h3⟩ := y b e
  have n1 : b ≠ a := fun z => by
    rw [z, S.at_] at h2
    cases h2
  have n2 : C.pl ≠ a := fun z => by
    rw [z, S.free] at h3
    cases h3
  exact ⟨by rw [upd_ne n1]; exact h1, h2, by rw [upd_ne n2]; exact h3⟩
/-- what __init__ says, without the bare instance -/
theorem ext_bare (h0 : H a = none) (n : dx ≠ a) (hd : H dx = none) (hs : Sub G H) (ht : Tb C H) (x : Ext C G (upd (upd (upd H dx (.own a)) a (.ins cA dx [])) a (.ins cA dx [])) G' (upd H' a (.ins cA dx []))) (S : Slf C G' H' a cA dx fvs) : Ext C G H G' H' := by
  rw [upd_upd] at x
  have x0 : Ext C G H G' (upd H' a (.ins cA dx [])) := (ext_new hs ht h0 hd n).trans x
  have e : upd (upd H' a (.ins cA dx [])) a (.ins cA dx fvs) = H' := by rw [upd_upd, S.base]
  have off : ∀ b, b ≠ a → upd H' a (.ins cA dx []) b = H' b := fun b z => upd_ne z
  refine ⟨fun b o e => ?_, x0.gro, x0.new, fun b o e n1 n2 => ?_, fun b e => ?_, ?_⟩
  · have nb : b ≠ a := fun z => by
      rw [z, S.free] at e
      cases e
    rw [← off b nb]
    exact x0.sub b o e
  · have nb : b ≠ a := fun z => by
      rw [z, h0] at e
      cases e
    rw [← off b nb]
    exact x0.kee b o e n1 n2
  · have nb : b ≠ a := fun z => by
      rw [z, S.at_] at e
      cases e
    exact x0.fre b (by rw [off b nb]; exact e)
  · rw [← e]
    exact tb_ins x0.tab upd_same _
end
section
variable {X : Cx} {C : Ctx} {W : WX} {e : Expr} {es : List Expr} {a : AM} {pos p : Pos} {x : Str} {gd gd' : Bool} {k j n : Nat} {m : IM}
theorem pm_mk (F : Ins C X.prog X.w X.base gd x k n m) (w : Wk X C W gd' j) (hk : k + 1 ≤ j) (hgd : gd = true → gd' = true) (ha : PA X (e :: es) (rA C W a)) (hl : ALen a n) (hg : Gl X x := by rfl) (hdb : (x == ("__debug__" : Str)) = false := by decide)
    (he : starEach (e :: es) X.env = (false, eval e X.env) :: starEach es X.env := by rfl) (hpl : (backTo pos (starEach es X.env)).any (·.1) = false := by rfl) : PE X (.Call (.Name x p) (e :: es) [] pos) (rE C W (mMk x m a)) := by
  obtain ⟨cA, f, fd, ps, h1, M, h3, h4, F⟩ := F.ex
  refine ⟨fun pins s σ H Q I ⟨G, env, p0, L, o⟩ => ?_⟩
  have hm1 : X.mg x = some (.ref cA) := by rw [← w.mg]; exact h1
  rw [w.K] at M h3 F
  rw [w.mg] at F
  refine wpAny_Call_Name_kw (ld_glob I hg hm1 ?_ hdb)
  have o2 := o.bind
  cases ea : a env p0 with
  | bad =>
    rw [ea] at o2
    exact o2.elim
  | err er q =>
    have z : rA C W a σ H (fun _ _ => False) := ⟨G, env, p0, L, by rw [ea] at o2 ⊢; exact o2⟩
    refine PySem.W.callWith_K (h₀ := X.base) I.ok.mod.kin M.kp (thn (ha.run pos pins s σ H _ I z) fun us s1 ⟨vs, H1, I1, r, q⟩ => q.elim) he hpl
  | ok ds q =>
    have lds := hl _ _ _ _ ea
    rw [ea] at o2
    have z : rA C W a σ H (fun vs H1 => ∀ x dx, H1 x = none → H1 dx = none → dx ≠ x → spIn C cA m n (.ref x :: vs) (upd (upd H1 dx (.own x)) x (.ins cA dx [])) (fun v H2 => v = .non ∧ Q (.ref x) H2) (fun cls d H' => W cls d σ H')) := ⟨G, env, p0, L, by
      rw [ea]
      intro vs G1 H1 x1 y1 r1 b dx hb hd nd
      have s1 := x1.sub
      have xn := ext_new (cA := cA) s1 x1.tab hb hd nd
      have yn : PenAt C G1 (upd (upd H1 dx (.own b)) b (.ins cA dx [])) q := fun u e => by
        obtain ⟨k1, k2, k3⟩ := y1 u e
        have n1 : u ≠ b := fun z => by
          rw [z, hb] at k2
          cases k2
        have n2 : u ≠ dx := fun z => by
          rw [z, hd] at k2
          cases k2
        exact ⟨k1, by rw [upd_ne n1, upd_ne n2]; exact k2, k3⟩
      refine ⟨b, dx, G1, vs, ds, q, rfl, by rw [r1.length]; exact lds, xn.sub, xn.tab, x1.nt L.tab L.nt, yn, slf_new s1 hb, r1, (OutP.bind o2).imp (fun fs q2 z G' H' fvs x2 S2 r2 y2 => ?_) fun er q2 z cls dd G' H' fvs x2 S2 y2 r2 => ?_⟩
      · have x3 := ext_bare hb nd hd s1 x1.tab x2 S2
        have x4 := ext_made y1 x3 S2 hb
        have gr : Sub G' (upd G' b (.ins cA dx fvs)) := fun c o e => by
          rw [upd_ne (ne_of_none e S2.free)]
          exact e
        exact ⟨rfl, z (.ref b) _ H' (x1.trans x4) (pen_made S2 y2) (.obj h1 upd_same (r2.mono gr))⟩
      · have x3 := ext_bare hb nd hd s1 x1.tab x2 S2
        exact z cls dd G' H' (x1.trans x3) y2 r2⟩
    refine PySem.W.callWith_K (h₀ := X.base) I.ok.mod.kin M.kp (thn (ha.run pos pins s σ H _ I z) fun us s1 ⟨vs, H1, I1, r, q⟩ => ⟨I1.kIn, ?_⟩) he hpl
    exact run_mkA M F (w.room.mono hk) (fun c => w.gd (hgd c)) h3 (fun H2 s2 er s' I2 c => w.tk er s' (XE.of_call I2 (fun cls d H2 h => h) c)) I1 r q
end
end Pu
end

section
set_option maxHeartbeats 2000000
namespace Pu
open PySem PySem.Spec PyProof.Rows L2

/-! ### == and != of instances by their own __eq__ -/
section
variable {prog : Program} {w : World} {A : Around} {E : Value → Shared → Prop} {s : Shared} {K : PySem.W.Frag} {x cA f : Addr} {ox : Obj} {od : Option Obj} {b : Value}
theorem ne_body (hK : K.In s.heap) (I : PySem.W.InstAt s.heap x ox cA od) (hs : PySem.W.findIn K (.ref cA) "__eq__" = some (some (.ref f))) (hf : PySem.W.isFn K (.ref f) = true) (hu : A.units < cLine) {Q : Fin → Shared → Prop}
    (h : wpAny (model prog w) A (call (.ref f) [.ref x, b]) (fun v s' => ∃ r, v = .bool r ∧ Q (.done (.ret (.bool (!r)))) s') E s) : wpAny (model prog w) A (Builtin.«object.__ne__» ⟨[.ref x, b], []⟩) Q E s := by
  unfold Builtin.«object.__ne__»
  repeat (first
    | with_reducible refine wpAny_cRoomFor hu ?_
    | (refine wpAny_bind (m := callSpecialIfBound? (.ref x) (Str.ofString "__eq__") [b])
        (PySem.W.ifBound_K hK I hs hf (wpAny_mono h (fun r s' hr => by
          obtain ⟨b, rfl, hq⟩ := hr
          repeat (first | exact hq | exact wpAny_pure hq | exact wpAny_truthy_bool hq | (refine wpAny_bind (m := truthy (.bool _)) (wpAny_truthy_bool ?_)) | wp_step)) fun _ _ e => e)))
    | wp_step)
theorem ne_call (hK : K.In s.heap) (I : PySem.W.InstAt s.heap x ox cA od) (hm : PySem.W.mroIn K cA (.type "object") = some true) (hs : PySem.W.findIn K (.ref cA) "__eq__" = some (some (.ref f))) (hf : PySem.W.isFn K (.ref f) = true) (hu : A.units + 1 < cLine) {Q : Value → Shared → Prop}
    (h : wpAny (model prog w) A.in1 (call (.ref f) [.ref x, b]) (fun v s' => ∃ r, v = .bool r ∧ Q (.bool (!r)) s') E s) : wpAny (model prog w) A (call (.builtin "object.__ne__") [.ref x, b]) Q E s :=
  wpAny_call (codeAny_call_builtin F.cmp_object.ne.plain F.cmpEntry_ne (PySem.W.check_slot F.cmpKind_ne F.cmpSplit_ne (I.type.andThen (PySem.W.looks_mroIn hK hm)) (F.cmpArgs_ne _ _) (ne_body hK I hs hf hu h)))
theorem ne_bound {M : Model} {args : List Value} {Q : Option Value → Shared → Prop} (hK : K.In s.heap) (I : PySem.W.InstAt s.heap x ox cA od) (hs : PySem.W.findIn K (.ref cA) "__ne__" = some (some (.builtin "object.__ne__")))
    (h : wpAny M A (call (.builtin "object.__ne__") (.ref x :: args)) (fun v => Q (some v)) E s) : wpAny M A (callSpecialIfBound? (.ref x) "__ne__" args) Q E s := by
  simp only [callSpecialIfBound?, bindSpecialIfBound?]
  refine wpAny_holding (wpAny_bind (wpAny_bind (wpAny_bind (I.type.here ((PySem.W.looks_findIn hK hs).here ?_)))))
  refine wpAny_bind (wpAny_askSetting (wpAny_ite ?_))
  have fin : wpAny M A (call (.builtin "object.__ne__") ([.ref x] ++ args) >>= fun v => pure (some v)) Q E s := wpAny_bind (wpAny_mono h (fun v s' h' => wpAny_pure h') fun _ _ h' => h')
  split
  · exact wpAny_bind (wpAny_of_eq (F.cmp_object.ne.bind _) (wpAny_pure (by exact fin)))
  · exact wpAny_tryCatch (wpAny_bind (wpAny_of_eq (F.cmp_object.ne.bind _) (wpAny_pure (by exact fin))))
theorem ne_rich {Q : Value → Shared → Prop} (hu : A.units + 1 < cLine) (hK : K.In s.heap) (I : PySem.W.InstAt s.heap x ox cA od) (hb : PySem.W.Looks (model prog w) s.heap (typeOf b) (.ref cA)) (hm : PySem.W.mroIn K cA (.type "object") = some true)
    (hn : PySem.W.findIn K (.ref cA) "__ne__" = some (some (.builtin "object.__ne__"))) (hs : PySem.W.findIn K (.ref cA) "__eq__" = some (some (.ref f))) (hf : PySem.W.isFn K (.ref f) = true)
    (h : wpAny (model prog w) A.in1 (call (.ref f) [.ref x, b]) (fun v s' => ∃ r, v = .bool r ∧ Q (.bool (!r)) s') E s) : wpAny (model prog w) A (richCompare .NotEq (.ref x) b) Q E s := by
  have one : wpAny (model prog w) A (tryCompare (.ref x) "__ne__" b) (fun r s' => ∃ v, r = some v ∧ Q v s') E s := by
    unfold tryCompare
    refine wpAny_bind (ne_bound hK I hn (ne_call hK I hm hs hf hu (wpAny_mono h (fun v s' hv => ?_) fun _ _ e => e)))
    obtain ⟨r, rfl, q⟩ := hv
    exact ⟨r, rfl, wpAny_pure ⟨_, rfl, q⟩⟩
  unfold richCompare
  simp only [oneThing_ref, cmpInfo_NotEq]
  refine wpAny_holding (wpAny_bind (wpAny_cRoomFor (Nat.lt_of_succ_lt hu) ?_))
  refine wpAny_bind (I.type.here (wpAny_bind (hb.here ?_)))
  rw [show (Value.ref cA != Value.ref cA) = false from by simp]
  simp only [Bool.false_eq_true, if_false]
  refine wpAny_bind (wpAny_pure ?_)
  simp only [Bool.false_eq_true, if_false]
  refine wpAny_bind (wpAny_mono one (fun r s' z => ?_) fun _ _ e => e)
  obtain ⟨v, rfl, hq⟩ := z
  exact wpAny_pure hq
end
end Pu
end

section
set_option maxHeartbeats 2000000
namespace Pu
open PySem PySem.Spec PyProof.Rows L2

theorem OutP.neE {α : Type} {o : Out α} {Q : α → Pen → Prop} {E E' : Err → Pen → Prop} (h : OutP o.ne Q E) : OutP o.ne Q E' := by
  cases o with
  | ok a p => exact h
  | err e p => exact h.elim
  | bad => exact h.elim
/-- a class with an own __eq__ -/
structure OwnEq (C : Ctx) (P : Program) (w : World) (base : Heap) (gd : Bool) (c : Str) (k : Nat) (m : FM) : Prop where
  ex : ∃ (cA f : Addr) (fd : FuncData) (ps : List Str), C.mg c = some (.ref cA) ∧ PySem.W.findIn C.K (.ref cA) "__eq__" = some (some (.ref f)) ∧ PySem.W.findIn C.K (.ref cA) "__ne__" = some (some (.builtin "object.__ne__")) ∧ PySem.W.mroIn C.K cA (.type "object") = some true ∧
    PySem.W.isFn C.K (.ref f) = true ∧ Binds C.K fd ps [] ∧ ps.length = 2 ∧ FnA gd P w C.K C.mg base (L2.CX P w) k f fd ps (spM C m 2)
def rEqI (C : Ctx) (cA : Addr) (m : FM) (ng : Bool) : R2 := fun x y H Q => ∃ a b dx dy fs gs, x = .ref a ∧ y = .ref b ∧ H a = some (.ins cA dx fs) ∧ H b = some (.ins cA dy gs) ∧
  spM C m 2 [x, y] H (fun v H' => ∃ r, v = .bl r ∧ Q (.bl (if ng then !r else r)) H') (fun _ _ _ => False)
section
variable {X : Cx} {C : Ctx} {W : WX} {gd gd' : Bool} {k j : Nat} {c : Str} {m : FM}
theorem op_eqI {cA f : Addr} {fd : FuncData} {ps : List Str} (ng : Bool) (w : Wk X C W gd' j) (hk : k + 1 ≤ j) (hgd : gd = true → gd' = true) (h1 : PySem.W.findIn X.K (.ref cA) "__eq__" = some (some (.ref f))) (h2 : PySem.W.findIn X.K (.ref cA) "__ne__" = some (some (.builtin "object.__ne__"))) (h3 : PySem.W.mroIn X.K cA (.type "object") = some true)
    (h4 : PySem.W.isFn X.K (.ref f) = true) (h5 : Binds X.K fd ps []) (F : FnA gd X.prog X.w X.K X.mg X.base (L2.CX X.prog X.w) k f fd ps (spM C m 2)) : OpR X (compareOp (if ng then .NotEq else .Eq)) (rEqI C cA m ng) := by
  intro pins s σ H x y v u Q I rx ry ⟨a, b, dx, dy, fs, gs, hx, hy, ha, hb, sp⟩
  subst hx hy
  cases rx
  cases ry
  obtain ⟨mA, J, _⟩ := ins_get I.hok ha
  obtain ⟨mB, J', _⟩ := ins_get I.hok hb
  obtain ⟨od, J, _⟩ := J.look
  obtain ⟨od', J', _⟩ := J'.look
  obtain ⟨m', hF⟩ := I.fr
  have hu : X.A.units + 1 < cLine := by
    have := w.hu
    omega
  have run : ∀ (A : Around), Room k A → A.guards = X.A.guards → A.frames = X.A.frames → ∀ (Q1 : Value → Shared → Prop), (∀ r s', (∃ H', Inv X pins σ H' s' ∧ Q (.bl (if ng then !r else r)) H') → Q1 (.bool r) s') → wpAny (model X.prog X.w) A (call (.ref f) [.ref a, .ref b]) Q1 X.xe s := by
    intro A hr hg hf Q1 hQ
    have e0 : Env0 X.prog X.w X.K X.mg X.base A X.stack s H := by
      have e := I.env0
      exact ⟨by rw [hf]; exact e.frames, e.mod, e.bs, e.bsz, e.funs, e.frf, e.hok, e.bare⟩
    have hl := F.len _ _ _ _ sp
    have r2 : Vals [V.ref a, V.ref b] [Value.ref a, Value.ref b] := .cons rfl (.cons rfl .nil)
    refine wpAny_call (codeAny_mono (F.run A X.stack s H ⟨[.ref a, .ref b], []⟩ [.ref a, .ref b] [.ref a, .ref b] _ _ hr (fun e => hg.trans (w.gd (hgd e))) e0 (by
      have := h5 s [.ref a, .ref b] I.kIn (by simpa using hl)
      simpa using this) r2 sp) fun r s' hq => ?_)
    cases r with
    | error e => exact w.tk e s' (XE.of_call I (fun cls d H2 h => h.elim) hq)
    | ok fl =>
      cases fl with
      | ret u =>
        obtain ⟨z, H', I', rz, r, ez, q⟩ := I.after hq
        subst ez
        cases rz
        exact hQ r s' ⟨H', I', q⟩
      | next => exact False.elim hq
      | brk => exact False.elim hq
      | cont => exact False.elim hq
  cases ng with
  | false =>
    show wpAny (model X.prog X.w) X.A (richCompare .Eq (.ref a) (.ref b)) (EP X pins σ Q) X.xe s
    refine PySem.W.cmp_K (op := .Eq) (tb := .ref cA) (Nat.lt_of_succ_lt hu) hF I.ok.mod.kin J J'.type (by simp [PySem.W.notFirst]) h1 h4 ?_
    exact run X.A (w.room.mono (by omega)) rfl rfl _ fun r s' ⟨H', I', q⟩ => ⟨.bl r, H', I', rfl, q⟩
  | true =>
    show wpAny (model X.prog X.w) X.A (richCompare .NotEq (.ref a) (.ref b)) (EP X pins σ Q) X.xe s
    refine ne_rich hu I.kIn J J'.type h3 h2 h1 h4 ?_
    exact run X.A.in1 (w.room.mono hk).in1 rfl rfl _ fun r s' ⟨H', I', q⟩ => ⟨r, rfl, .bl (!r), H', I', rfl, q⟩
/-- == (ng: !=) of two instances by their class's own __eq__; else as of data -/
def kEqN (ng : Bool) : D → D → Option D := if ng then kNe else kEq
def kEqIns (m : FM) (ng : Bool) (d e : D) (p : Pen) : Out D := (m [d, e] p).ne.bind fun z q => match z with
  | .bl b => .ok (.bl (if ng then !b else b)) q
  | _ => .bad
def mEqI (c : Str) (m : FM) (ng : Bool) (ma mb : EM) : EM := fun env p => (ma env p).bind fun d p1 => (mb env p1).bind fun e p2 => match d, e with
  | .obj c1 f1, .obj c2 f2 => if c1 = c ∧ c2 = c then kEqIns m ng (.obj c1 f1) (.obj c2 f2) p2 else .bad
  | d, e => match kEqN ng d e with
    | some z => .ok z p2
    | none => .bad
theorem rd_eqI {cA : Addr} {ma mb : EM} {ng : Bool} {r : R2} (hr : OpOk C r (kEqN ng)) (hc : C.mg c = some (.ref cA)) {σ : St} {H : Hp} {Q : VK} (h : rE C W (mEqI c m ng ma mb) σ H Q) : tOp (fun x y H Q => rEqI C cA (fun ds q => (m ds q).ne) ng x y H Q ∨ r x y H Q) (rB C W ma) (rB C W mb) σ H Q := by
  obtain ⟨G, env, p, L, o⟩ := h
  refine ⟨G, env, p, L, o.bind.imp (fun d q z v G1 H1 x1 y1 r1 => ?_) fun _ _ z => z⟩
  refine ⟨G1, env, q, L.step x1 y1, z.bind.imp (fun e q2 z2 w G2 H2 x2 y2 r2 => ?_) fun _ _ z => z.step x1⟩
  have L2 := (L.step x1 y1).step x2 y2
  have dat : ∀ {d e : D}, OutP (match kEqN ng d e with
      | some z => Out.ok z q2
      | none => .bad) (fun d q => ∀ (v : V) (G' H' : Hp), Ext C G H G' H' → PenAt C G' H' q → Rep C G' v d → Q v H') (ErrP C W G H σ) → BRep C G2 σ env v d → BRep C G2 σ env w e → r v w H2 Q := by
    intro d e z2 r1 r2
    cases ek : kEqN ng d e with
    | none =>
      rw [ek] at z2
      exact z2.elim
    | some u =>
      rw [ek] at z2
      exact hr G2 H2 σ env q2 v w d e u Q L2 r1 r2 ek fun x G' H' al rx => z2 x G' H' ((x1.trans x2).trans (L2.ext al)) (y2.alc al) rx
  have r1' := r1.mono x2.gro
  cases d with
  | obj c1 f1 =>
    cases e with
    | obj c2 f2 =>
      by_cases hcc : c1 = c ∧ c2 = c
      · have z3 : OutP (if c1 = c ∧ c2 = c then kEqIns m ng (.obj c1 f1) (.obj c2 f2) q2 else .bad) _ _ := z2
        rw [if_pos hcc] at z3
        unfold kEqIns at z3
        obtain ⟨rfl, rfl⟩ := hcc
        rcases r1' with r1' | ⟨_, _, _, _, e2, _⟩
        · rcases r2 with r2 | ⟨_, _, _, _, e2, _⟩
          · cases r1' with
            | @obj a dx cA1 _ fvs _ mm hG rr =>
              cases r2 with
              | @obj b dy cA2 _ gvs _ mm2 hG2 rr2 =>
                rw [hc] at mm mm2
                cases mm
                cases mm2
                refine .inl ⟨a, b, dx, dy, fvs, gvs, rfl, rfl, L2.sub _ _ hG, L2.sub _ _ hG2, G2, [.obj _ f1, .obj _ f2], q2, rfl, L2.sub, L2.tab, L2.nt, L2.pen, .cons (.obj hc hG rr) (.cons (.obj hc hG2 rr2) .nil), ?_⟩
                refine OutP.neE ((OutP.bind z3).imp (fun d q z4 v3 G3 H3 x3 y3 r3 => ?_) fun _ _ z => z)
                cases d with
                | bl bb =>
                  cases r3
                  exact ⟨bb, rfl, z4 _ G3 H3 ((x1.trans x2).trans x3) y3 (.bl _)⟩
                | _ => exact z4.elim
          · cases e2
        · cases e2
      · have z3 : OutP (if c1 = c ∧ c2 = c then kEqIns m ng (.obj c1 f1) (.obj c2 f2) q2 else .bad) _ _ := z2
        rw [if_neg hcc] at z3
        exact z3.elim
    | _ => exact .inr (dat z2 r1' r2)
  | _ => exact .inr (dat z2 r1' r2)
end
section
variable {X : Cx} {C : Ctx} {W : WX} {gd gd' : Bool} {k j : Nat} {c : Str} {m : FM} {a b : Expr} {ma mb : EM} {pos : Pos}
theorem rm_eqI (ng : Bool) (w : Wk X C W gd' j) (F : OwnEq C X.prog X.w X.base gd c k m) (hk : k + 1 ≤ j) (hgd : gd = true → gd' = true) : ∃ cA r, C.mg c = some (.ref cA) ∧ OpOk C r (kEqN ng) ∧ OpR X (compareOp (if ng then .NotEq else .Eq)) (fun x y H Q => rEqI C cA (fun ds q => (m ds q).ne) ng x y H Q ∨ r x y H Q) := by
  obtain ⟨cA, f, fd, ps, h0, h1, h2, h3, h4, h5, h6, F⟩ := F.ex
  rw [w.K] at h1 h2 h3 h4 h5 F
  rw [w.mg] at F
  have F2 : FnA gd X.prog X.w X.K X.mg X.base (L2.CX X.prog X.w) k f fd ps (spM C (fun ds q => (m ds q).ne) 2) := ⟨fun vs H Q E ⟨_, _, _, h, _⟩ => h.trans h6.symm, fun A outer s H args us vs Q E hr hg e0 hb rv ⟨G, ds, p, a1, a2, a3, a4, a5, a6, a7⟩ => F.run A outer s H args us vs Q E hr hg e0 hb rv ⟨G, ds, p, a1, a2, a3, a4, a5, a6, by
    have a8 : OutP (m ds p).ne _ _ := a7
    cases e : m ds p with
    | ok d q =>
      rw [e] at a8
      exact a8
    | err er q =>
      rw [e] at a8
      exact a8.elim
    | bad =>
      rw [e] at a8
      exact a8.elim⟩⟩
  cases ng with
  | false => exact ⟨cA, rEqD X.K, h0, ok_eq, OpR.or (op_eqI false w hk hgd h1 h2 h3 h4 h5 F2) (op_eqD w.hu)⟩
  | true => exact ⟨cA, rNeD X.K, h0, ok_ne, OpR.or (op_eqI true w hk hgd h1 h2 h3 h4 h5 F2) (op_neD w.hu)⟩
theorem pm_eqI (w : Wk X C W gd' j) (F : OwnEq C X.prog X.w X.base gd c k m) (hk : k + 1 ≤ j) (hgd : gd = true → gd' = true) (ha : PE X a (rB C W ma)) (hb : PE X b (rB C W mb)) : PE X (.Compare a [.Eq] [b] pos) (rE C W (mEqI c m false ma mb)) := by
  obtain ⟨cA, r, h0, h1, h2⟩ := rm_eqI false w F hk hgd
  exact (pe_cmpR h2 ha hb (nomark _)).of fun _ _ _ h => rd_eqI h1 h0 h
theorem pm_neI (w : Wk X C W gd' j) (F : OwnEq C X.prog X.w X.base gd c k m) (hk : k + 1 ≤ j) (hgd : gd = true → gd' = true) (ha : PE X a (rB C W ma)) (hb : PE X b (rB C W mb)) : PE X (.Compare a [.NotEq] [b] pos) (rE C W (mEqI c m true ma mb)) := by
  obtain ⟨cA, r, h0, h1, h2⟩ := rm_eqI true w F hk hgd
  exact (pe_cmpR h2 ha hb (nomark _)).of fun _ _ _ h => rd_eqI h1 h0 h
theorem tm_eqI (w : Wk X C W gd' j) (F : OwnEq C X.prog X.w X.base gd c k m) (hk : k + 1 ≤ j) (hgd : gd = true → gd' = true) (ha : PE X a (rB C W ma)) (hb : PE X b (rB C W mb)) : PT X (.Compare a [.Eq] [b] pos) (rT C W (mT (mEqI c m false ma mb))) := by
  obtain ⟨cA, r, h0, h1, h2⟩ := rm_eqI false w F hk hgd
  exact (pt_cmpR h2 ha hb (nomark _)).of fun _ _ _ h => rd_eqI h1 h0 (rd_test h)
theorem tm_neI (w : Wk X C W gd' j) (F : OwnEq C X.prog X.w X.base gd c k m) (hk : k + 1 ≤ j) (hgd : gd = true → gd' = true) (ha : PE X a (rB C W ma)) (hb : PE X b (rB C W mb)) : PT X (.Compare a [.NotEq] [b] pos) (rT C W (mT (mEqI c m true ma mb))) := by
  obtain ⟨cA, r, h0, h1, h2⟩ := rm_eqI true w F hk hgd
  exact (pt_cmpR h2 ha hb (nomark _)).of fun _ _ _ h => rd_eqI h1 h0 (rd_test h)
end
end Pu
end

section
set_option maxHeartbeats 2000000
namespace Pu
open PySem PySem.Spec PyProof.Rows L2

/-! ### len(x), x an instance with an own __len__ -/
structure OwnLen (C : Ctx) (P : Program) (w : World) (base : Heap) (gd : Bool) (c : Str) (k : Nat) (m : FM) : Prop where
  ex : ∃ (cA f : Addr) (fd : FuncData) (ps : List Str), C.mg c = some (.ref cA) ∧ PySem.W.findIn C.K (.ref cA) "__len__" = some (some (.ref f)) ∧ PySem.W.isFn C.K (.ref f) = true ∧ Binds C.K fd ps [] ∧ ps.length = 1 ∧ FnA gd P w C.K C.mg base (L2.CX P w) k f fd ps (spM C m 1)
def rLenI (C : Ctx) (cA : Addr) (m : FM) : List V → Hp → VK → Prop := fun xs H Q => ∃ a dx fs, xs = [.ref a] ∧ H a = some (.ins cA dx fs) ∧ spM C m 1 [.ref a] H (fun v H' => ∃ n : Int, v = .int n ∧ (0 ≤ n ∧ n < 2 ^ 63) ∧ Q (.int n) H') (fun _ _ _ => False)
def kLenBack (o : Out D) : Out D := o.ne.bind fun z q => match z with
  | .int n => if 0 ≤ n ∧ n < 2 ^ 63 then .ok (.int n) q else .bad
  | _ => .bad
def mLenI (c : Str) (m : FM) (me : EM) : EM := fun env p => (me env p).bind fun d q => match d with
  | .obj c1 fs => if c1 = c then kLenBack (m [.obj c1 fs] q) else .bad
  | _ => .bad
theorem FnA.quiet {C : Ctx} {P : Program} {w : World} {base : Heap} {gd : Bool} {k n : Nat} {f : Addr} {fd : FuncData} {ps : List Str} {m : FM} (hl : ps.length = n) (F : FnA gd P w C.K C.mg base (L2.CX P w) k f fd ps (spM C m n)) : FnA gd P w C.K C.mg base (L2.CX P w) k f fd ps (spM C (fun ds q => (m ds q).ne) n) :=
  ⟨fun vs H Q E ⟨_, _, _, h, _⟩ => h.trans hl.symm, fun A outer s H args us vs Q E hr hg e0 hb rv ⟨G, ds, p, a1, a2, a3, a4, a5, a6, a7⟩ => F.run A outer s H args us vs Q E hr hg e0 hb rv ⟨G, ds, p, a1, a2, a3, a4, a5, a6, by
    have a8 : OutP (m ds p).ne _ _ := a7
    cases e : m ds p with
    | ok d q =>
      rw [e] at a8
      exact a8
    | err er q =>
      rw [e] at a8
      exact a8.elim
    | bad =>
      rw [e] at a8
      exact a8.elim⟩⟩
section
variable {X : Cx} {C : Ctx} {W : WX} {gd gd' : Bool} {k j : Nat} {c : Str} {m : FM} {e : Expr} {me : EM} {pos p : Pos}
theorem call_lenI {cA f : Addr} {fd : FuncData} {ps : List Str} (w : Wk X C W gd' j) (hk : k + 1 ≤ j) (hgd : gd = true → gd' = true) (h1 : PySem.W.findIn X.K (.ref cA) "__len__" = some (some (.ref f))) (h4 : PySem.W.isFn X.K (.ref f) = true) (h5 : Binds X.K fd ps [])
    (F : FnA gd X.prog X.w X.K X.mg X.base (L2.CX X.prog X.w) k f fd ps (spM C m 1)) : CallR X (.builtin "len") (rLenI C cA m) := by
  intro pins s σ H xs us Q I r ⟨a, dx, fs, hx, ha, sp⟩
  subst hx
  obtain ⟨u, rfl, rx⟩ := vals1 r
  cases rx
  obtain ⟨mA, J, _⟩ := ins_get I.hok ha
  obtain ⟨od, J, _⟩ := J.look
  obtain ⟨m', hF⟩ := I.fr
  refine PySem.W.len_K hF I.ok.mod.kin J h1 h4 ?_
  have hl := F.len _ _ _ _ sp
  have r2 : Vals [V.ref a] [Value.ref a] := .cons rfl .nil
  refine wpAny_call (codeAny_mono (F.run X.A.in1 X.stack s H ⟨[.ref a], []⟩ [.ref a] [.ref a] _ _ (w.room.mono hk).in1 (fun e => w.gd (hgd e)) I.env0.in1 (by
    have := h5 s [.ref a] I.kIn (by simpa using hl)
    simpa using this) r2 sp) fun r s' hq => ?_)
  cases r with
  | error e => exact w.tk e s' (XE.of_call I (fun cls d H2 h => h.elim) hq)
  | ok fl =>
    cases fl with
    | ret u =>
      obtain ⟨z, H', I', rz, n, ez, hn, q⟩ := I.after hq
      subst ez
      obtain ⟨t, rfl⟩ := rz
      exact ⟨hn, .int n, H', I'.tok _, ⟨_, rfl⟩, q⟩
    | next => exact False.elim hq
    | brk => exact False.elim hq
    | cont => exact False.elim hq
theorem pm_lenI (w : Wk X C W gd' j) (F : OwnLen C X.prog X.w X.base gd c k m) (hk : k + 1 ≤ j) (hgd : gd = true → gd' = true) (hm : X.mg "len" = none) (h : PE X e (rE C W me)) (hg : Gl X "len" := by rfl) (hs : starEach [e] X.env = (false, eval e X.env) :: starEach [] X.env := by rfl) (hpl : (backTo pos (starEach [] X.env)).any (·.1) = false := by rfl) :
    PE X (.Call (.Name "len" p) [e] [] pos) (rE C W (mLenI c m me)) := by
  obtain ⟨cA, f, fd, ps, h0, h1, h4, h5, h6, F⟩ := F.ex
  rw [w.K] at h1 h4 h5 F
  rw [w.mg] at F
  have F2 : FnA gd X.prog X.w X.K X.mg X.base (L2.CX X.prog X.w) k f fd ps (spM C (fun ds q => (m ds q).ne) 1) := by
    rw [← w.K, ← w.mg] at F ⊢
    exact F.quiet h6
  refine (pe_callB (call_lenI w hk hgd h1 h4 h5 F2) hg hm PySem.boot_len (am_cons h am_nil hs) (by decide) (by decide) hs hpl).of fun σ H Q ⟨G, env, p0, L, o⟩ => ?_
  refine ⟨G, env, p0, L, ?_⟩
  have o2 := o.bind
  show OutP ((me env p0).bind fun d q => (aNil env q).bind fun ds q2 => .ok (d :: ds) q2) _ _
  refine OutP.mk (o2.imp (fun d q z vs G1 H1 x1 y1 r1 => ?_) fun _ _ z => z)
  cases r1 with
  | @cons v _ _ _ r1 t =>
    cases t
    cases d with
    | obj c1 fs =>
      have z1 : OutP (if c1 = c then kLenBack (m [.obj c1 fs] q) else .bad) _ _ := z
      by_cases hc : c1 = c
      · rw [if_pos hc] at z1
        subst hc
        unfold kLenBack at z1
        cases r1 with
        | @obj a dx cA1 _ fvs _ mm hG rr =>
          rw [h0] at mm
          cases mm
          have L1 := L.step x1 y1
          refine ⟨a, dx, fvs, rfl, x1.sub _ _ hG, G1, [.obj c1 fs], q, rfl, x1.sub, x1.tab, L1.nt, y1, .cons (.obj h0 hG rr) .nil, OutP.neE ((OutP.bind z1).imp (fun d2 q2 z2 v2 G2 H2 x2 y2 r2 => ?_) fun _ _ z => z)⟩
          cases d2 with
          | int n =>
            have z3 : OutP (if 0 ≤ n ∧ n < 2 ^ 63 then Out.ok (D.int n) q2 else .bad) _ _ := z2
            cases r2
            by_cases hn : 0 ≤ n ∧ n < 2 ^ 63
            · rw [if_pos hn] at z3
              exact ⟨n, rfl, hn, z3 _ G2 H2 (x1.trans x2) y2 (.int _)⟩
            · rw [if_neg hn] at z3
              exact z3.elim
          | _ => exact z2.elim
      · rw [if_neg hc] at z1
        exact z1.elim
    | _ => exact z.elim
end
end Pu
end

section
set_option maxHeartbeats 4000000
/-! ### sorted(t), t a tuple of ints -/
namespace SrtT
open PySem PyProof.Rows Srt SrtO
section
variable {prog : Program} {w : World} {A : Around} {E : Value → Shared → Prop} {s : Shared} {t : Addr} {vs : List Value}
theorem col_tup {Q : List Value → Shared → Prop} (ht : s.heap.IsTuple t vs.toArray) (hz : vs.length ≤ sizeLine) (h : Q vs { s with heap := (s.heap.push (seqObj "list" #[] 0)).update s.heap.objs.size (Obj.mapSeq (· ++ vs.toArray)) }) :
    wpAny (model prog w) A (collect (.ref t)) Q E s := by
  obtain ⟨o, ho, hcls, n, hdat⟩ := id ht
  have up : (s.heap.push (seqObj "list" #[] 0)).get? t = some o := Heap.get?_push_of_some _ ho
  unfold collect
  refine wpAny_bind (wpAny_runValue (codeAny_builtin entry_proto_collect' ?_))
  change wpAny _ _ (newList [] >>= fun l => again (.builtin "list.__iadd__" ⟨[l, .ref t], []⟩)) _ _ s
  refine wpAny_bind (wpAny_newList (wpAny_pure ⟨Code.quiet_builtin _ (by decide +kernel), codeAny_builtin entry_list_iadd' ?_⟩))
  change wpAny _ _ (Builtin.List.listExtendWith _ (.ref t) _) _ _ _
  unfold Builtin.List.listExtendWith
  refine wpAny_bind (wpAny_typeOf (T := "tuple") ⟨o, up, hcls⟩ ?_)
  rw [if_pos (by simp)]
  refine wpAny_bind (listItems_at up hdat ?_)
  refine wpAny_bind (listItems_at (n := 0) (xs := #[]) (Heap.get?_push_size _ rfl) rfl ?_)
  rw [if_neg (by simp)]
  refine wpAny_bind (listUpdate_at (n := 0) (xs := #[]) (Heap.get?_push_size _ rfl) rfl ?_ (Nat.zero_le _) (by simp only [Array.size_append, List.size_toArray, List.length_nil]; omega))
  refine wpAny_pure ?_
  refine wpAny_bind (wpAny_load (get?_update_seq (Heap.get?_push_size _ rfl) _) ?_)
  change wpAny _ _ (pure ((#[] : Array Value) ++ vs.toArray).toList) _ _ _
  have e : ((#[] : Array Value) ++ vs.toArray).toList = vs := by simp
  rw [e]
  exact wpAny_pure h
theorem sorted_tup {ltv : Value → Value → Bool} {Q : Value → Shared → Prop} (O : Swo ltv) (ht : s.heap.IsTuple t vs.toArray) (hz : vs.length ≤ sizeLine) (hS : 2 ≤ vs.length → ∀ (h₁ : Heap) (a : Addr), SortableO prog w A.in1.in1 { s with heap := h₁ } a vs ltv)
    (h : ∀ out : List Value, Srtd ltv out → Stb ltv out vs → Q (.ref (s.heap.objs.size + 1)) { s with heap := sortedAll s.heap vs out.toArray }) : wpAny (model prog w) A (call (.builtin "sorted") [.ref t]) Q E s := by
  refine Calls.call_function_entry kind_sorted plain_sorted entry_sorted (args_sorted1 _) ?_
  unfold Builtin.«sorted»
  refine wpAny_bind (m := checkCount "sorted" 1 1 _) (wpAny_pure (wpAny_bind (col_tup ht hz (wpAny_bind (wpAny_newList ?_ hz)))))
  have size : ((s.heap.push (seqObj "list" #[] 0)).update s.heap.objs.size (Obj.mapSeq (· ++ vs.toArray))).objs.size = s.heap.objs.size + 1 := by
    rw [Heap.size_update, size_push']
  have there : (((s.heap.push (seqObj "list" #[] 0)).update s.heap.objs.size (Obj.mapSeq (· ++ vs.toArray))).push (seqObj "list" vs.toArray 0)).get? (s.heap.objs.size + 1) = some (seqObj "list" vs.toArray 0) := by
    rw [← size]
    exact Heap.get?_push_size _ rfl
  change wpAny _ _ _ _ _ { s with heap := ((s.heap.push (seqObj "list" #[] 0)).update s.heap.objs.size (Obj.mapSeq (· ++ vs.toArray))).push (seqObj "list" vs.toArray 0) }
  rw [size]
  have srt := list_sort_ord (prog := prog) (w := w) (A := A.in1.in1) (E := E) (s := { s with heap := ((s.heap.push (seqObj "list" #[] 0)).update s.heap.objs.size (Obj.mapSeq (· ++ vs.toArray))).push (seqObj "list" vs.toArray 0) }) (R := fun f s' => f = .done (.ret .none) ∧ s'.heap = s'.heap ∧ ∃ out : List Value, Srtd ltv out ∧ Stb ltv out vs ∧ s' = { s with heap := sortedAll s.heap vs out.toArray }) O there hz (fun h2 => hS h2 _ _) fun out a b => ⟨rfl, rfl, out, a, b, rfl⟩
  refine wpAny_bind (wpAny_holding (wpAny_call_entry slot_list_sort ⟨_, there, rfl⟩ entry_list_sort (wpAny_mono srt (fun f s' z => ?_) fun _ _ e => e) (args_list_sort _)))
  obtain ⟨rfl, _, out, a, b, rfl⟩ := z
  exact ⟨_, rfl, wpAny_pure ⟨_, rfl, h out a b⟩⟩
end
end SrtT
namespace Pu
open PySem PySem.Spec PyProof.Rows L2
def rSortT (K : PySem.W.Frag) : List V → Hp → VK → Prop := fun vs H Q => ∃ (a : Addr) (ns : List Int), vs = [V.ref a] ∧ SqT K H a (ns.map V.int) ∧ ∀ (ns' : List Int) (p : Addr), ns'.Perm ns → ns'.Pairwise (· ≤ ·) → H p = none → Q (.ref p) (upd H p (.lst (ns'.map V.int)))
theorem cr_sortT {X : Cx} : CallR X (.builtin "sorted") (rSortT X.K) := by
  intro pins s σ H vs us Q I r ⟨a, ns, hx, hs, q⟩
  subst hx
  obtain ⟨its, rv, ht, hz⟩ := I.tuple hs
  obtain ⟨u, rfl, rx⟩ := vals1 r
  cases rx
  have hi := rv.ints
  refine SrtT.sorted_tup SrtO.swo_int ht (by rw [← rv.length]; exact hz) (fun h2 h₁ a' => SrtO.ints_sortable hi h2) fun out h1 h2 => ?_
  obtain ⟨k1, k2, k3⟩ := SrtO.ints_out hi h1 h2
  obtain ⟨ep, he⟩ := PyProof.Rows.sortedAll_at s.heap its out.toArray
  have len : ((out.map SrtO.iv).map V.int).length ≤ sizeLine := by
    rw [List.length_map] at hz ⊢
    rw [k2.length_eq]
    exact hz
  refine ⟨.ref (s.heap.objs.size + 1), upd H (s.heap.objs.size + 1) (.lst ((out.map SrtO.iv).map V.int)), ?_, rfl, q _ _ k2 k3 (I.hok.fresh (Nat.le_succ _))⟩
  exact I.laid (t' := s.toks) (fun _ _ => PyProof.Rows.sortedAll_old) (Nat.le_succ _) ⟨len, out, ep, vals_of_ints k1, he⟩
/-- sorted(xs) of ints -/
def srt (ns : List Int) : List Int := ns.mergeSort fun x y => decide (x ≤ y)
theorem srt_one {a b : List Int} (h : a.Perm b) (ha : a.Pairwise (· ≤ ·)) : a = srt b := by
  refine List.Perm.eq_of_pairwise (fun x y _ _ (h1 : x ≤ y) (h2 : y ≤ x) => by omega) ha ?_ (h.trans (List.mergeSort_perm b _).symm)
  have hs := List.pairwise_mergeSort (le := fun x y : Int => decide (x ≤ y)) (fun x y z p q => by simp only [decide_eq_true_eq] at *; omega) (fun x y => by simp only [Bool.or_eq_true, decide_eq_true_eq]; omega) b
  unfold srt
  simpa using hs
def kSorted (ds : List D) : Option (List D) := match ds with
  | [d] => match d.items with
    | some xs => (intsD xs).map fun ns => (srt ns).map D.int
    | none => none
  | _ => none
theorem ok_sorted {C : Ctx} {K : PySem.W.Frag} : FCallOk C (fun vs H Q => rSortedI K vs H Q ∨ rSortT K vs H Q) kSorted := by
  intro G H σ env p vs ds z Q L r ek q
  unfold kSorted at ek
  split at ek
  · split at ek
    · rename_i d xs hx
      cases ei : intsD xs with
      | none =>
        rw [ei] at ek
        cases ek
      | some ns =>
        rw [ei] at ek
        cases ek
        obtain ⟨v, rfl, rv⟩ := r.one
        have e := intsD_eq ei
        subst e
        obtain ⟨a, ws, rfl, hH, rs⟩ := rv.seq L (D.items_or hx)
        rw [Reps.of_ints rs] at hH
        have fin : ∀ (ns' : List Int) (p : Addr), ns'.Perm ns → ns'.Pairwise (· ≤ ·) → H p = none → Q (.ref p) (upd H p (.lst (ns'.map V.int))) := fun ns' p hp hs hn => by
          rw [srt_one hp hs]
          exact q p _ hn (Reps.ints _)
        rcases hH with hH | hH
        · exact .inl ⟨a, ns, rfl, SqL.of hH, fin⟩
        · exact .inr ⟨a, ns, rfl, SqT.of hH, fin⟩
    · cases ek
  · cases ek
section
variable {X : Cx} {C : Ctx} {W : WX} {e : Expr} {m : EM} {pos p : Pos}
theorem pm_sorted (hm : X.mg "sorted" = none) (h : PE X e (rB C W m)) (hg : Gl X "sorted" := by rfl) (hs : starEach [e] X.env = (false, eval e X.env) :: starEach [] X.env := by rfl) (hpl : (backTo pos (starEach [] X.env)).any (·.1) = false := by rfl) : PE X (.Call (.Name "sorted" p) [e] [] pos) (rF C W (mFCall kSorted (aCons m aNil))) :=
  pm_cbF ok_sorted (CallR.or cr_sortedI cr_sortT) hm (by with_unfolding_all rfl) (bm_cons h bm_nil hs) hg (by decide) (by decide) hs hpl
end
end Pu
end

section
set_option maxHeartbeats 4000000
/-! ### sum, max, min of a tuple of ints -/
namespace TupInts
open PySem PyProof.Rows
section
variable {prog : Program} {w : World} {A : Around} {E : Value → Shared → Prop} {s : Shared} {l : Addr} {xs : Array (Int × Tok)}
theorem it_tup {Q : Value → Shared → Prop} (hl : s.heap.IsTuple l (intItems xs))
    (h : ∀ s₂ : Shared, s₂ = { s with heap := s.heap.push { cls := .type "tuple_iterator", data := .fields #[.ref l, .int 0 0] } } → (s₂.heap.IsTupleIter s.heap.objs.size l 0 ∧ s₂.heap.IsTuple l (intItems xs)) → (∀ b ∈ [s.heap.objs.size, l], b < s₂.heap.objs.size) → l ≠ s.heap.objs.size →
      Q (.ref s.heap.objs.size) s₂) : wpAny (model prog w) A (pyIter (.ref l)) Q E s := by
  have below : l < s.heap.objs.size := hl.elim fun _ e => Heap.lt_size e.1
  refine wpAny_pyIter_tuple hl (h _ rfl ⟨⟨_, Heap.get?_push_size _ rfl, rfl, rfl⟩, hl.push _⟩ ?_ (Nat.ne_of_lt below))
  intro b hb
  show b < (s.heap.push _).objs.size
  rw [Heap.size_push]
  simp only [List.mem_cons, List.not_mem_nil, or_false] at hb
  rcases hb with e | e
  · rw [e]
    exact Nat.lt_succ_self _
  · rw [e]
    exact Nat.lt_succ_of_lt below
theorem keepT {h h' : Heap} {o0 : Obj} (hk : ∀ b o, b ∉ [h.objs.size] → (h.push o0).get? b = some o → h'.get? b = some o) : ∀ b o, h.get? b = some o → h'.get? b = some o := fun b o e => hk b o (by
  rw [List.mem_singleton]
  exact Nat.ne_of_lt (Heap.lt_size e)) (Heap.get?_push_of_some _ e)
theorem sum_t {Q : Value → Shared → Prop} (hh : A.handled = none) (hl : s.heap.IsTuple l (intItems xs)) (h : ∀ h' tk t', (∀ b o, s.heap.get? b = some o → h'.get? b = some o) → Q (.int (preSum (numAt xs) xs.size) t') { s with heap := h', toks := tk }) :
    wpAny (model prog w) A (call (.builtin "sum") [.ref l]) Q E s := by
  refine call_sum_walkG (it_tup hl fun s₂ e st hfp hne => ?_)
  subst e
  exact ⟨_, _, _, _, _, _, numAt xs, rfl, Walks.tuple (A := A.in1) hh _ l hne (intItems xs), st, hfp, fun _ _ => intItems_at, fun h' tk t' hk => by simpa [intItems] using h h' tk t' (keepT hk)⟩
theorem max_t {Q : Value → Shared → Prop} (hh : A.handled = none) (hl : s.heap.IsTuple l (intItems xs)) (hne : 0 < xs.size) (h : ∀ v h' tk, (intItems xs)[argBest (fun i j => decide (numAt xs i > numAt xs j)) (xs.size - 1)]? = some v → (∀ b o, s.heap.get? b = some o → h'.get? b = some o) → Q v { s with heap := h', toks := tk }) :
    wpAny (model prog w) A (call (.builtin "max") [.ref l]) Q E s := by
  refine call_max_walk (it_tup hl fun s₂ e st hfp hn => ?_)
  subst e
  exact ⟨_, _, _, _, _, _, _, rfl, Walks.tuple (A := A.in1) hh _ l hn (intItems xs), st, hfp, by simpa [intItems] using hne, CmpOf.ints_gt (numAt xs) (fun _ _ => intItems_at), fun v h' tk hP hk => h v h' tk (by simpa [intItems] using hP) (keepT hk)⟩
theorem min_t {Q : Value → Shared → Prop} (hh : A.handled = none) (hl : s.heap.IsTuple l (intItems xs)) (hne : 0 < xs.size) (h : ∀ v h' tk, (intItems xs)[argBest (fun i j => decide (numAt xs i < numAt xs j)) (xs.size - 1)]? = some v → (∀ b o, s.heap.get? b = some o → h'.get? b = some o) → Q v { s with heap := h', toks := tk }) :
    wpAny (model prog w) A (call (.builtin "min") [.ref l]) Q E s := by
  refine call_min_walk (it_tup hl fun s₂ e st hfp hn => ?_)
  subst e
  exact ⟨_, _, _, _, _, _, _, rfl, Walks.tuple (A := A.in1) hh _ l hn (intItems xs), st, hfp, by simpa [intItems] using hne, CmpOf.ints_lt (numAt xs) (fun _ _ => intItems_at), fun v h' tk hP hk => h v h' tk (by simpa [intItems] using hP) (keepT hk)⟩
variable {its : List Value} {ns : List Int} {Q : Value → Shared → Prop}
theorem sum_of (hh : A.handled = none) (hl : s.heap.IsTuple l its.toArray) (hi : IntsAre its ns) (h : ∀ h' tk t', (∀ b o, s.heap.get? b = some o → h'.get? b = some o) → Q (.int ns.sum t') { s with heap := h', toks := tk }) :
    wpAny (model prog w) A (call (.builtin "sum") [.ref l]) Q E s := by
  obtain ⟨xs, e⟩ := hi.allInts.items
  have n1 : numsOf (intItems xs).toList = ns := e ▸ hi.numsOf
  rw [nums_intItems] at n1
  rw [e] at hl
  refine sum_t hh hl fun h' tk t' hk => ?_
  rw [preSum_eq, List.take_of_length_le (by simp), n1]
  exact h h' tk t' hk
theorem max_of (hh : A.handled = none) (hl : s.heap.IsTuple l its.toArray) (hi : IntsAre its ns) (hne : 0 < ns.length)
    (h : ∀ h' tk M t', (∀ b o, s.heap.get? b = some o → h'.get? b = some o) → M ∈ ns → (∀ a ∈ ns, a ≤ M) → Q (.int M t') { s with heap := h', toks := tk }) : wpAny (model prog w) A (call (.builtin "max") [.ref l]) Q E s := by
  obtain ⟨xs, e⟩ := hi.allInts.items
  have n1 : numsOf (intItems xs).toList = ns := e ▸ hi.numsOf
  rw [nums_intItems] at n1
  subst n1
  rw [e] at hl
  refine max_t hh hl (by simpa using hne) fun v h' tk hv hk => ?_
  obtain ⟨t, rfl⟩ := intItems_at hv
  have hne' : 0 < xs.size := by simpa using hne
  obtain ⟨h1, h2⟩ := argBest_gt (numAt xs) (xs.size - 1)
  refine h h' tk _ t hk (by rw [numAt_eq]; exact PySem.getD_mem (by simp only [List.length_map, Array.length_toList]; omega)) fun a ha => ?_
  obtain ⟨j, hj, rfl⟩ := mem_getD ha
  simp only [List.length_map, Array.length_toList] at hj
  have := h2 j (by omega)
  rwa [numAt_eq xs j] at this
theorem min_of (hh : A.handled = none) (hl : s.heap.IsTuple l its.toArray) (hi : IntsAre its ns) (hne : 0 < ns.length)
    (h : ∀ h' tk M t', (∀ b o, s.heap.get? b = some o → h'.get? b = some o) → M ∈ ns → (∀ a ∈ ns, M ≤ a) → Q (.int M t') { s with heap := h', toks := tk }) : wpAny (model prog w) A (call (.builtin "min") [.ref l]) Q E s := by
  obtain ⟨xs, e⟩ := hi.allInts.items
  have n1 : numsOf (intItems xs).toList = ns := e ▸ hi.numsOf
  rw [nums_intItems] at n1
  subst n1
  rw [e] at hl
  refine min_t hh hl (by simpa using hne) fun v h' tk hv hk => ?_
  obtain ⟨t, rfl⟩ := intItems_at hv
  have hne' : 0 < xs.size := by simpa using hne
  obtain ⟨h1, h2⟩ := argBest_lt (numAt xs) (xs.size - 1)
  refine h h' tk _ t hk (by rw [numAt_eq]; exact PySem.getD_mem (by simp only [List.length_map, Array.length_toList]; omega)) fun a ha => ?_
  obtain ⟨j, hj, rfl⟩ := mem_getD ha
  simp only [List.length_map, Array.length_toList] at hj
  have := h2 j (by omega)
  rwa [numAt_eq xs j] at this
end
end TupInts
namespace Pu
open PySem PySem.Spec PyProof.Rows L2
def rSumT (K : PySem.W.Frag) : List V → Hp → VK → Prop := fun vs H Q => ∃ (a : Addr) (ns : List Int), vs = [V.ref a] ∧ SqT K H a (ns.map V.int) ∧ Q (.int ns.sum) H
def rMaxT (K : PySem.W.Frag) : List V → Hp → VK → Prop := fun vs H Q => ∃ (a : Addr) (ns : List Int), vs = [V.ref a] ∧ SqT K H a (ns.map V.int) ∧ 0 < ns.length ∧ ∀ m ∈ ns, (∀ y ∈ ns, y ≤ m) → Q (.int m) H
def rMinT (K : PySem.W.Frag) : List V → Hp → VK → Prop := fun vs H Q => ∃ (a : Addr) (ns : List Int), vs = [V.ref a] ∧ SqT K H a (ns.map V.int) ∧ 0 < ns.length ∧ ∀ m ∈ ns, (∀ y ∈ ns, m ≤ y) → Q (.int m) H
section
variable {X : Cx}
theorem cr_sumT (hc : X.calm = true) : CallR X (.builtin "sum") (rSumT X.K) := fun pins s σ H vs us Q I r ⟨a, ns, hx, hs, q⟩ => by
  subst hx
  obtain ⟨its, rv, hl, _⟩ := I.tuple hs
  rw [Vals.ref1 r]
  exact TupInts.sum_of (I.ok.hd hc) hl rv.ints fun h' tk t' hk => ⟨.int _, H, I.kept hk, ⟨_, rfl⟩, q⟩
theorem cr_maxT (hc : X.calm = true) : CallR X (.builtin "max") (rMaxT X.K) := fun pins s σ H vs us Q I r ⟨a, ns, hx, hs, hne, q⟩ => by
  subst hx
  obtain ⟨its, rv, hl, _⟩ := I.tuple hs
  rw [Vals.ref1 r]
  exact TupInts.max_of (I.ok.hd hc) hl rv.ints hne fun h' tk m t' hk h1 h2 => ⟨.int _, H, I.kept hk, ⟨_, rfl⟩, q m h1 h2⟩
theorem cr_minT (hc : X.calm = true) : CallR X (.builtin "min") (rMinT X.K) := fun pins s σ H vs us Q I r ⟨a, ns, hx, hs, hne, q⟩ => by
  subst hx
  obtain ⟨its, rv, hl, _⟩ := I.tuple hs
  rw [Vals.ref1 r]
  exact TupInts.min_of (I.ok.hd hc) hl rv.ints hne fun h' tk m t' hk h1 h2 => ⟨.int _, H, I.kept hk, ⟨_, rfl⟩, q m h1 h2⟩
end
/-- of a tuple or a list -/
def kIntsA (f : List Int → Option D) : List D → Option D
  | [d] => match d.items with
    | some xs => match intsD xs with
      | some ns => f ns
      | none => none
    | none => none
  | _ => none
theorem kInts_at {f : List Int → Option D} {xs : List D} {ns : List Int} (h : intsD xs = some ns) : kInts f [.lst xs] = f ns := by simp only [kInts, h]
theorem ok_intsA {C : Ctx} {r r' : List V → Hp → VK → Prop} {f : List Int → Option D} (h : CallOk C r (kInts f)) (h' : ∀ (G H : Hp) (σ : St) (env : Env) (p : Pen) (a : Addr) (ns : List Int) (z : D) (Q : VK), LOk C G H σ env p → G a = some (.tup (ns.map V.int)) → f ns = some z → (∀ v G' H', Alc G H G' H' → Rep C G' v z → Q v H') → r' [.ref a] H Q) :
    CallOk C (fun vs H Q => r vs H Q ∨ r' vs H Q) (kIntsA f) := by
  intro G H σ env p vs ds z Q L rv ek q
  unfold kIntsA at ek
  split at ek
  · rename_i d
    split at ek
    · rename_i xs hx
      split at ek
      · rename_i ns hn
        rcases D.items_or hx with e | e
        · subst e
          exact .inl (h G H σ env p vs _ z Q L rv ((kInts_at hn).trans ek) q)
        · subst e
          obtain ⟨v, rfl, rw'⟩ := rv.one
          obtain ⟨a, ws, rfl, hG, rs⟩ := rw'.tup
          rw [intsD_eq hn] at rs
          rw [Reps.of_ints rs] at hG
          exact .inr (h' G H σ env p a ns z Q L hG ek q)
      · cases ek
    · cases ek
  · cases ek
theorem ok_sumA {C : Ctx} {K : PySem.W.Frag} : CallOk C (fun vs H Q => rSum K vs H Q ∨ rSumT K vs H Q) (kIntsA fun ns => some (.int ns.sum)) := ok_intsA ok_sum fun G H σ env p a ns z Q L hG e q => by
  cases e
  exact ⟨a, ns, rfl, SqT.of (L.sub _ _ hG), q _ G H (Alc.refl L.sub) (.int _)⟩
theorem ok_maxA {C : Ctx} {K : PySem.W.Frag} : CallOk C (fun vs H Q => rMax K vs H Q ∨ rMaxT K vs H Q) (kIntsA fun ns => (maxL ns).map D.int) := ok_intsA ok_maxL fun G H σ env p a ns z Q L hG e q => by
  cases em : maxL ns with
  | none =>
    rw [em] at e
    cases e
  | some m =>
    rw [em] at e
    cases e
    obtain ⟨h1, h2⟩ := maxL_spec em
    refine ⟨a, ns, rfl, SqT.of (L.sub _ _ hG), List.length_pos_of_mem h1, fun m' h3 h4 => ?_⟩
    have e : m' = m := Int.le_antisymm (h2 m' h3) (h4 m h1)
    subst e
    exact q _ G H (Alc.refl L.sub) (.int _)
theorem ok_minA {C : Ctx} {K : PySem.W.Frag} : CallOk C (fun vs H Q => rMin K vs H Q ∨ rMinT K vs H Q) (kIntsA fun ns => (minL ns).map D.int) := ok_intsA ok_minL fun G H σ env p a ns z Q L hG e q => by
  cases em : minL ns with
  | none =>
    rw [em] at e
    cases e
  | some m =>
    rw [em] at e
    cases e
    obtain ⟨h1, h2⟩ := minL_spec em
    refine ⟨a, ns, rfl, SqT.of (L.sub _ _ hG), List.length_pos_of_mem h1, fun m' h3 h4 => ?_⟩
    have e : m' = m := Int.le_antisymm (h4 m h1) (h2 m' h3)
    subst e
    exact q _ G H (Alc.refl L.sub) (.int _)
section
variable {X : Cx} {C : Ctx} {W : WX} {e : Expr} {m : EM} {pos p : Pos}
theorem pm_sumA (hc : X.calm = true) (hm : X.mg "sum" = none) (h : PE X e (rB C W m)) (hg : Gl X "sum" := by rfl) (hs : starEach [e] X.env = (false, eval e X.env) :: starEach [] X.env := by rfl) (hpl : (backTo pos (starEach [] X.env)).any (·.1) = false := by rfl) : PE X (.Call (.Name "sum" p) [e] [] pos) (rE C W (mCall (kIntsA fun ns => some (.int ns.sum)) (aCons m aNil))) :=
  pm_cb ok_sumA (CallR.or (cr_sum hc) (cr_sumT hc)) hm boot_sum (bm_cons h bm_nil hs) hg (by decide) (by decide) hs hpl
theorem pm_maxA (hc : X.calm = true) (hm : X.mg "max" = none) (h : PE X e (rB C W m)) (hg : Gl X "max" := by rfl) (hs : starEach [e] X.env = (false, eval e X.env) :: starEach [] X.env := by rfl) (hpl : (backTo pos (starEach [] X.env)).any (·.1) = false := by rfl) : PE X (.Call (.Name "max" p) [e] [] pos) (rE C W (mCall (kIntsA fun ns => (maxL ns).map D.int) (aCons m aNil))) :=
  pm_cb ok_maxA (CallR.or (cr_max hc) (cr_maxT hc)) hm boot_max (bm_cons h bm_nil hs) hg (by decide) (by decide) hs hpl
theorem pm_minA (hc : X.calm = true) (hm : X.mg "min" = none) (h : PE X e (rB C W m)) (hg : Gl X "min" := by rfl) (hs : starEach [e] X.env = (false, eval e X.env) :: starEach [] X.env := by rfl) (hpl : (backTo pos (starEach [] X.env)).any (·.1) = false := by rfl) : PE X (.Call (.Name "min" p) [e] [] pos) (rE C W (mCall (kIntsA fun ns => (minL ns).map D.int) (aCons m aNil))) :=
  pm_cb ok_minA (CallR.or (cr_min hc) (cr_minT hc)) hm boot_min (bm_cons h bm_nil hs) hg (by decide) (by decide) hs hpl
end
end Pu
end

section
set_option maxHeartbeats 4000000
namespace Pu
open PySem PySem.Spec PyProof.Rows L2

/-! ### f(e, ..) where a slot holds one of some defs -/
def mCallV (i : Nat) (fs : List (Str × FM)) (a : AM) : EM := fun env p => match env[i]? with
  | some (.val (.fn x)) => match fs.lookup x with
    | some m => mFn m a env p
    | none => .bad
  | _ => .bad
/-- each of them by its promise -/
inductive Fns (C : Ctx) (P : Program) (w : World) (base : Heap) (gd : Bool) (k n : Nat) : List (Str × FM) → Prop where
  | nil : Fns C P w base gd k n []
  | cons {x : Str} {j : Nat} {m : FM} {fs : List (Str × FM)} (h : Fn C P w base gd x j n m) (hj : j ≤ k) (t : Fns C P w base gd k n fs) : Fns C P w base gd k n ((x, m) :: fs)
theorem Fns.look {C : Ctx} {P : Program} {w : World} {base : Heap} {gd : Bool} {k n : Nat} {x : Str} {m : FM} : ∀ {fs : List (Str × FM)}, Fns C P w base gd k n fs → fs.lookup x = some m → ∃ j, j ≤ k ∧ Fn C P w base gd x j n m
  | _, .nil, e => by cases e
  | _, .cons h hj t, e => by
    rw [look_put] at e
    split at e
    · rename_i c
      cases e
      subst c
      exact ⟨_, hj, h⟩
    · exact Fns.look t e
section
variable {X : Cx} {C : Ctx} {W : WX} {e : Expr} {es : List Expr} {a : AM} {pos p : Pos} {x : Str} {gd gd' : Bool} {k j n : Nat} {m : FM}
theorem pm_callV (i : Nat) {fs : List (Str × FM)} (F : Fns C X.prog X.w X.base gd k n fs) (w : Wk X C W gd' j) (hk : k ≤ j) (hgd : gd = true → gd' = true) (ha : PA X (e :: es) (rA C W a)) (hl : ALen a n) (hN : X.N[i]? = some x := by rfl) (hv : Vis X.env.scope x := by first | exact Or.inl rfl | exact Or.inr (Or.inl rfl) | exact Or.inr (Or.inr rfl))
    (hdb : (x == ("__debug__" : Str)) = false := by decide) (hcd : (x == ("__classdict__" : Str)) = false := by decide)
    (he : starEach (e :: es) X.env = (false, eval e X.env) :: starEach es X.env := by rfl) (hpl : (backTo pos (starEach es X.env)).any (·.1) = false := by rfl) : PE X (.Call (.Name x p) (e :: es) [] pos) (rE C W (mCallV i fs a)) := by
  refine ⟨fun pins s σ H Q I ⟨G, env, p0, L, o⟩ => ?_⟩
  unfold mCallV at o
  split at o
  · rename_i y hy
    split at o
    · rename_i m hm
      obtain ⟨j1, hj1, F⟩ := F.look hm
      obtain ⟨f, fd, ps, h1, h2, h3, h4, F⟩ := F.ex
      have hs : σ[i]? = some (some (.ref f)) := by
        have hi : i < env.length := by
          rw [List.getElem?_eq_some_iff] at hy
          exact hy.1
        have hi2 : i < σ.length := by
          rw [L.len]
          exact hi
        have s0 := L.slot i _ _ (List.getElem?_eq_getElem hi2) hy
        rw [List.getElem?_eq_getElem hi2]
        generalize σ[i] = z at s0
        cases s0 with
        | val r =>
          cases r with
          | fn h =>
            rw [h1] at h
            cases h
            rfl
      rw [w.K] at h2 h3 F
      rw [w.mg] at F
      refine wpAny_Call_Name_kw (thn ((pe_var (pos := p) hN hv hdb hcd).run pins s σ H (fun v H1 => v = .ref f ∧ H1 = H) I ⟨.ref f, hs, rfl, rfl⟩) fun u s1 ⟨v, H1, I1, r1, q1, q2⟩ => ?_)
      subst q1 q2
      cases r1
      have o1 : OutP (mFn m a env p0) _ _ := o
      have o2 := OutP.bind o1
      cases ea : a env p0 with
      | bad =>
        rw [ea] at o2
        exact o2.elim
      | err er q =>
        have z : rA C W a σ H1 (fun _ _ => False) := ⟨G, env, p0, L, by rw [ea] at o2 ⊢; exact o2⟩
        refine PySem.W.callWith_K (h₀ := X.base) I1.ok.mod.kin h2 (thn (ha.run pos pins s1 σ _ _ I1 z) fun us s1 ⟨vs, H1, I1, r, q⟩ => q.elim) he hpl
      | ok ds q =>
        have lds := hl _ _ _ _ ea
        rw [ea] at o2
        have z : rA C W a σ H1 (fun vs H1 => spM C m n vs H1 Q (fun cls d H' => W cls d σ H')) := ⟨G, env, p0, L, by
          rw [ea]
          intro vs G1 H1 x1 y1 r1
          refine ⟨G1, ds, q, by rw [r1.length]; exact lds, x1.sub, x1.tab, x1.nt L.tab L.nt, y1, r1, OutP.imp o2 (fun d q2 z2 v G2 H2 x2 y2 r2 => z2 v G2 H2 (x1.trans x2) y2 r2) fun er q2 z2 cls dd G2 H2 x2 y2 r2 => z2 cls dd G2 H2 (x1.trans x2) y2 r2⟩⟩
        refine PySem.W.callWith_K (h₀ := X.base) I1.ok.mod.kin h2 (thn (ha.run pos pins s1 σ _ _ I1 z) fun us s2 ⟨vs, H2, I2, r, q⟩ => ⟨I2.kIn, ?_⟩) he hpl
        exact run_fnA F (w.room.mono (Nat.le_trans hj1 hk)) (fun c => w.gd (hgd c)) h3 (fun er s' c => w.tk er s' (XE.of_call I2 (fun cls d H2 h => h) c)) I2 r q
    · exact o.elim
  · exact o.elim
end
end Pu
end

section
set_option maxHeartbeats 2000000
namespace Pu
open PySem PySem.Spec PyProof.Rows L2

/-! ### own classes by the head's word -/
def clsB (K : PySem.W.Frag) (cA : Addr) : Bool := PySem.W.plainGet K cA Str.empty && (PySem.W.hasDictIn K cA && (PySem.W.plainOver K cA && (He.eqO (PySem.W.findIn K (.ref cA) "__setattr__") (some (some (.builtin "object.__setattr__"))) && insB K cA)))
theorem clsB_ok {K : PySem.W.Frag} {cA : Addr} (h : clsB K cA = true) : InsC K cA := by
  unfold clsB at h
  rw [Bool.and_eq_true, Bool.and_eq_true, Bool.and_eq_true, Bool.and_eq_true] at h
  exact insB_ok ⟨h.1, h.2.1, h.2.2.1, He.eqO_ok h.2.2.2.1⟩ h.2.2.2.2
def mkB (K : PySem.W.Frag) (cA : Addr) : Bool := PySem.W.makesIn K cA && (He.eqO (PySem.W.findIn K (.ref cA) "__init__") (some (some (.ref (He.ma K cA "__init__")))) && (PySem.W.isFn K (.ref (He.ma K cA "__init__")) && PySem.W.keepIn K (.ref cA)))
theorem mkB_ok {K : PySem.W.Frag} {cA : Addr} (h : mkB K cA = true) : Mk K cA (He.ma K cA "__init__") := by
  unfold mkB at h
  rw [Bool.and_eq_true, Bool.and_eq_true, Bool.and_eq_true] at h
  exact ⟨h.1, He.eqO_ok h.2.1, h.2.2.1, h.2.2.2⟩
def metB (K : PySem.W.Frag) (cA : Addr) (m : Str) : Bool := He.eqO (PySem.W.findIn K (.ref cA) m) (some (some (.ref (He.ma K cA m)))) && PySem.W.isFn K (.ref (He.ma K cA m))
def neB (K : PySem.W.Frag) (cA : Addr) : Bool := He.eqO (PySem.W.findIn K (.ref cA) "__ne__") (some (some (.builtin "object.__ne__")))
section
variable {C : Ctx} {P : Program} {w : World} {base : Heap} {gd : Bool} {k n : Nat} {x : Str} {fd : FuncData} {ps : List Str}
theorem ins_of {m : IM} (hm : C.mg x = some (.ref (He.ga C.K x))) (h : mkB C.K (He.ga C.K x) = true) (hb : Binds C.K fd ps []) (hl : ps.length = n + 1) (F : FnA gd P w C.K C.mg base (L2.CX P w) k (He.ma C.K (He.ga C.K x) "__init__") fd ps (spIn C (He.ga C.K x) m n)) : Ins C P w base gd x k n m :=
  ⟨_, _, fd, ps, hm, mkB_ok h, hb, hl, F⟩
theorem ownEq_of {m : FM} (hm : C.mg x = some (.ref (He.ga C.K x))) (h : metB C.K (He.ga C.K x) "__eq__" = true) (h2 : neB C.K (He.ga C.K x) = true) (h3 : InsC C.K (He.ga C.K x)) (hb : Binds C.K fd ps []) (hl : ps.length = 2) (F : FnA gd P w C.K C.mg base (L2.CX P w) k (He.ma C.K (He.ga C.K x) "__eq__") fd ps (spM C m 2)) : OwnEq C P w base gd x k m := by
  unfold metB at h
  rw [Bool.and_eq_true] at h
  exact ⟨_, _, fd, ps, hm, He.eqO_ok h.1, He.eqO_ok h2, h3.hm, h.2, hb, hl, F⟩
theorem ownLen_of {m : FM} (hm : C.mg x = some (.ref (He.ga C.K x))) (h : metB C.K (He.ga C.K x) "__len__" = true) (hb : Binds C.K fd ps []) (hl : ps.length = 1) (F : FnA gd P w C.K C.mg base (L2.CX P w) k (He.ma C.K (He.ga C.K x) "__len__") fd ps (spM C m 1)) : OwnLen C P w base gd x k m := by
  unfold metB at h
  rw [Bool.and_eq_true] at h
  exact ⟨_, _, fd, ps, hm, He.eqO_ok h.1, h.2, hb, hl, F⟩
theorem fnA_of {qual name : Str} {params : Arguments} {body : List Stmt} {scope : Scope} {f : Addr} {N : List Str} {m : SM} (F : FunD C.K name qual params body scope [] [] f fd) (S : FnScope N ps scope) (hx : C.ex = none) (h : ∀ cdv, Body gd C P w base N qual scope f cdv k body m) : FnA gd P w C.K C.mg base (L2.CX P w) (k + 1) f fd ps (spM C (mDef N.length m) ps.length) := by
  obtain ⟨oc, od, dV, kV, doc, pm, an, cdv, ct, osl, rfl, lk, hcd, _, _⟩ := F.ex
  exact fn_pu lk hcd S hx (h cdv)
theorem fnI_of {qual name s1 : Str} {params : Arguments} {body : List Stmt} {scope : Scope} {f cA : Addr} {N : List Str} {m : OF} {n : Nat} (F : FunD C.K name qual params body scope [] [] f fd) (S : FnScope N (s1 :: ps) scope) (hx : C.ex = none) (hn : n ≤ 900)
    (h : ∀ (cdv : Value) (A : Around) (outer : List PySem.Env) (s : Shared) (H : Hp) (E : XK), Wk (cxOf (L2.CX P w) P w C.K C.mg base N qual scope f cdv A outer s H E) C (fun cls d _ H => E cls d H) gd k → PSs (cxOf (L2.CX P w) P w C.K C.mg base N qual scope f cdv A outer s H E) body (rIn C (fun cls d _ H => E cls d H) cA n m)) :
    FnA gd P w C.K C.mg base (L2.CX P w) (k + 1) f fd (s1 :: ps) (spIn C cA (mDefI N.length m) ps.length) := by
  obtain ⟨oc, od, dV, kV, doc, pm, an, cdv, ct, osl, rfl, lk, hcd, _, _⟩ := F.ex
  exact fn_in lk hcd S hx hn (h cdv)
/-- a promise that nothing keeps: the ground of a recursion -/
theorem fn_bad {qual : Str} {params : Arguments} {body : List Stmt} {scope : Scope} {f : Addr} (F : FunD C.K x qual params body scope [] [] f fd) (hm : C.mg x = some (.ref f)) (hb : Binds C.K fd ps []) : Fn C P w base gd x k ps.length (fun _ _ => .bad) :=
  ⟨f, fd, ps, hm, F.kp, hb, rfl, fun vs H Q E ⟨_, _, _, h, _⟩ => h, fun A outer s H args us vs Q E _ _ _ _ _ ⟨_, _, _, _, _, _, _, _, _, h⟩ => h.elim⟩
end
end Pu
end

section
set_option maxHeartbeats 2000000
namespace Pu
open PySem PySem.Spec PyProof.Rows L2

/-! ### defs that make lambdas: their code objects are known -/
section
variable {C : Ctx} {P : Program} {w : World} {base : Heap} {gd : Bool} {k : Nat} {x : Str} {fd : FuncData} {ps : List Str}
theorem fn_ofL {qual : Str} {params : Arguments} {body : List Stmt} {scope : Scope} {p : He.Defn} {N : List Str} {m : SM} (F : FunD C.K x qual params body scope [] [] (He.fAd C.K p) fd) (hm : C.mg x = some (.ref (He.fAd C.K p))) (S : FnScope N ps scope) (hx : C.ex = none) (hb : Binds C.K fd ps [])
    (h : Body true C P w base N qual scope (He.fAd C.K p) (.ref (He.codeOf C.K p)) k body m) : Fn C P w base true x (k + 1) ps.length (mDef N.length m) := by
  have kp := F.kp
  obtain ⟨oc, od, dV, kV, doc, pm, an, cdv, ct, osl, rfl, lk, hcd, _, _⟩ := F.ex
  obtain ⟨c, rfl⟩ := He.codeIn_ref hcd
  have e := He.codeOf_eq lk rfl
  rw [e] at h
  exact ⟨_, _, ps, hm, kp, hb, rfl, fn_pu lk hcd S hx h⟩
theorem law_ofL {ip : Nat} {y qual : Str} {params : Arguments} {st : Stmt} {rest : List Stmt} {scope : Scope} {p : He.Defn} {N : List Str} {m1 m2 : SM} {ok : List Int → Prop} {pen0 : List Int → Pen} (F : FunD C.K x qual params (st :: rest) scope [] [] (He.fAd C.K p) fd) (S : FnScope N [y] scope) (hx : C.ex = none) (hp : C.pa = none) (hip : ip < N.length) (h1 : 1 ≤ N.length)
    (hb1 : ∀ (A : Around) (outer : List PySem.Env) (s : Shared) (H : Hp) (E : XK), Wk (cxOf (L2.CX P w) P w C.K C.mg base N qual scope (He.fAd C.K p) (.ref (He.codeOf C.K p)) A outer s H E) C (fun cls d _ H => E cls d H) true k → PS (cxOf (L2.CX P w) P w C.K C.mg base N qual scope (He.fAd C.K p) (.ref (He.codeOf C.K p)) A outer s H E) st (rS C (fun cls d _ H => E cls d H) m1))
    (hb2 : ∀ (a l : Addr) (A : Around) (outer : List PySem.Env) (s : Shared) (H : Hp) (E : XK), Wk (cxOf (L2.CX P w) P w C.K C.mg base N qual scope (He.fAd C.K p) (.ref (He.codeOf C.K p)) A outer s H E) (C.withPen a l) (fun cls d _ H => E cls d H) true k → PSs (cxOf (L2.CX P w) P w C.K C.mg base N qual scope (He.fAd C.K p) (.ref (He.codeOf C.K p)) A outer s H E) rest (rS (C.withPen a l) (fun cls d _ H => E cls d H) m2))
    (hm1 : ∀ ns, ok ns → m1 (env0 N.length [.scr ns]) emptyPen = .next ((env0 N.length [.scr ns]).set ip (.val (.dct (penDs (pen0 ns))))) emptyPen)
    (hm2 : ∀ ns, ok ns → ∃ q, m2 (envL N.length ip) (pen0 ns) = .ret (.bl true) q) : FnA true P w C.K C.mg base (L2.CX P w) (k + 1) (He.fAd C.K p) fd [y] (spLaw C ok) := by
  obtain ⟨oc, od, dV, kV, doc, pm, an, cdv, ct, osl, rfl, lk, hcd, _, _⟩ := F.ex
  obtain ⟨c, rfl⟩ := He.codeIn_ref hcd
  have e := He.codeOf_eq lk rfl
  rw [e] at hb1 hb2
  exact fn_law lk hcd S hx hp hip h1 hb1 hb2 hm1 hm2
end
/-- the tables of the defs that make lambdas: in order, not mixed up -/
structure TT (tf : List (He.Defn × Str)) (C : Ctx) (base : Heap) : Prop where
  tb : ∀ p ∈ tf, LamX.TabB base C.mg (He.cT C.K p.1).1 (He.cT C.K p.1).2
  inT : ∀ p ∈ tf, ((He.cT C.K p.1).2, p.2) ∈ C.T
  one : ∀ p ∈ tf, ∀ q ∈ C.T, q.1 = (He.cT C.K p.1).2 → q.2 = p.2
  cl : C.cl = none
def ttB (tf : List (He.Defn × Str)) (K : PySem.W.Frag) : Bool := tf.all fun p => tf.all fun q => decide ((He.cT K q.1).2 = (He.cT K p.1).2 → q.2 = p.2)
def ttT (tf : List (He.Defn × Str)) (K : PySem.W.Frag) : List (Addr × Str) := tf.map fun p => ((He.cT K p.1).2, p.2)
theorem tt_of {tf : List (He.Defn × Str)} {C : Ctx} {base : Heap} (h : ttB tf C.K = true) (hT : C.T = ttT tf C.K) (hc : C.cl = none) (hb : ∀ p ∈ tf.map (fun p => He.cT C.K p.1), LamX.TabB base C.mg p.1 p.2) : TT tf C base := by
  refine ⟨fun p hp => hb _ (List.mem_map.mpr ⟨p, hp, rfl⟩), fun p hp => by rw [hT]; exact List.mem_map.mpr ⟨p, hp, rfl⟩, fun p hp q hq e => ?_, hc⟩
  rw [hT] at hq
  obtain ⟨r, hr, rfl⟩ := List.mem_map.mp hq
  exact of_decide_eq_true (List.all_eq_true.mp (List.all_eq_true.mp h p hp) r hr) e
theorem TT.pen {tf : List (He.Defn × Str)} {C : Ctx} {base : Heap} (h : TT tf C base) (a l : Addr) : TT tf (C.withPen a l) base := ⟨h.tb, h.inT, h.one, h.cl⟩
/-- a comprehension's block, looked at by the kernel -/
def blkB (N : List Str) (sc scope : Scope) (own : List (Str × Nat)) : Bool :=
  decide (scope.kind = .function) && (scope.names.all (fun y => decide (scope.names.lookup y.1 = some y.2)) && (own.all (fun p => decide (N[p.2]? = some p.1)) && (scope.names.all (fun y => decide (y.2 = .free → sc.names.lookup y.1 = some .cell ∨ sc.names.lookup y.1 = some .free)) && scope.names.all (fun y => decide (y.2 = .local ∨ y.2 = .cell → y.1 ∈ own.map (·.1) ∨ y.1 ∉ N)))))
theorem blk_of {N : List Str} {sc scope : Scope} {own : List (Str × Nat)} (h : blkB N sc scope own = true) : BlkOk N sc scope own := by
  unfold blkB at h
  rw [Bool.and_eq_true, Bool.and_eq_true, Bool.and_eq_true, Bool.and_eq_true, List.all_eq_true, List.all_eq_true, List.all_eq_true, List.all_eq_true, decide_eq_true_eq] at h
  obtain ⟨h1, h2, h3, h4, h5⟩ := h
  exact ⟨h1, fun y m => of_decide_eq_true (h2 y m), fun y m => of_decide_eq_true (h3 y m), fun y m => of_decide_eq_true (h4 y m), fun y m => of_decide_eq_true (h5 y m)⟩
abbrev kSumA : List D → Option D := kIntsA fun ns => some (.int ns.sum)
abbrev kMaxA : List D → Option D := kIntsA fun ns => (maxL ns).map D.int
abbrev kMinA : List D → Option D := kIntsA fun ns => (minL ns).map D.int
abbrev kAll : List D → Option D := kBls fun bs => some (.bl (bs.all id))
abbrev kAny : List D → Option D := kBls fun bs => some (.bl (bs.any id))
end Pu
end

section
set_option maxHeartbeats 2000000
namespace Pu
open PySem PySem.Spec PyProof.Rows L2

/-! ### isinstance(x, (A, B, ..)) -/
def D.isCls : D → Bool
  | .ty _ => true
  | .fn _ => true
  | _ => false
def askAny (ask : Ask) (t : Sum String Str) : List D → Option Bool
  | [] => some false
  | k :: ks => match ask t k with
    | some true => some true
    | some false => askAny ask t ks
    | none => none
def kIsiT (os : List Str) (ask : Ask) : List D → Option D
  | [d, .tup ks] => if ks.all D.isCls = true ∧ d.isExc = false then (match d with
    | .obj c _ => if c ∈ os then (askAny ask (.inr c) ks).map D.bl else none
    | d => match d.tag with
      | some t => (askAny ask t ks).map D.bl
      | none => none) else none
  | _ => none
inductive ClsDs (C : Ctx) : List D → List Value → Prop where
  | nil : ClsDs C [] []
  | cons {d : D} {v : V} {u : Value} {ds : List D} {us : List Value} (h : ClsD C d v u) (t : ClsDs C ds us) : ClsDs C (d :: ds) (u :: us)
theorem cls_all {C : Ctx} {G : Hp} : ∀ {vs : List V} {ks : List D}, Reps C G vs ks → ks.all D.isCls = true → ∃ us, Paired ClsV vs us ∧ ClsDs C ks us
  | _, _, .nil, _ => ⟨[], .nil, .nil⟩
  | _, _, .cons (d := d) h t, c => by
    rw [List.all_cons, Bool.and_eq_true] at c
    obtain ⟨us, p1, p2⟩ := cls_all t c.2
    have hk : (∃ n, d = .ty n) ∨ ∃ c, d = .fn c := by
      have c1 := c.1
      cases d <;> first | exact .inl ⟨_, rfl⟩ | exact .inr ⟨_, rfl⟩ | cases c1
    obtain ⟨u, q1, q2⟩ := ClsD.of (ask := fun _ _ => none) (t := .inl "int") (b := true) h hk
    exact ⟨u :: us, .cons q1 p1, .cons q2 p2⟩
theorem askAny_ok {C : Ctx} {ask : Ask} (A : AskOk C ask) {t : Sum String Str} {tv : Value} (ht : TagV C t tv) : ∀ {ks : List D} {us : List Value} {b : Bool}, ClsDs C ks us → askAny ask t ks = some b → PySem.W.kitAny C.K tv us = some b
  | _, _, _, .nil, e => by cases e; rfl
  | _, _, b, .cons (d := k) h r, e => by
    unfold askAny at e
    cases ea : ask t k with
    | none => rw [ea] at e; cases e
    | some x =>
      rw [ea] at e
      have q := A.ok _ _ _ ea _ ht _ _ h
      cases x with
      | true =>
        cases e
        exact kitAny_cons q (fun z => nomatch z) fun _ => rfl
      | false => exact kitAny_cons q (fun _ => askAny_ok A ht r e) fun z => nomatch z
theorem ok_isT {C : Ctx} {os es : List Str} {ask : Ask} (A : AskOk C ask) (K : Clss C os es) : CallOk C (rIsiT C.K) (kIsiT os ask) := by
  intro G H σ env p vs ds z Q L r ek q
  unfold kIsiT at ek
  split at ek
  · rename_i d ks
    split at ek
    · rename_i hc
      obtain ⟨v, w, rfl, rv, rw'⟩ := r.two'
      have fr := rv.frz L
      have frk := rw'.frz L
      cases frk with
      | tup hT rs =>
        obtain ⟨us, p1, p2⟩ := cls_all rs hc.1
        split at ek
        · rename_i c fs
          split at ek
          · rename_i ho
            cases ea : askAny ask (.inr c) ks with
            | none =>
              rw [ea] at ek
              cases ek
            | some b =>
              rw [ea] at ek
              cases ek
              cases fr with
              | obj m h rr =>
                have ic := K.obj c ho _ m
                exact ⟨_, _, _, _, us, b, rfl, L.frz_sub _ _ hT, p1, .base (.ins (L.frz_sub _ _ h) ic.cls ic.ha ic.hn ic.ht ic.hm), askAny_ok A (.own m) p2 ea, q _ G H (Alc.refl L.sub) (.bl _)⟩
          · cases ek
        · rename_i n1
          split at ek
          · rename_i t ht
            cases ea : askAny ask t ks with
            | none =>
              rw [ea] at ek
              cases ek
            | some b =>
              rw [ea] at ek
              cases ek
              have m1 : d.isObj = false := by
                cases d <;> first | rfl | exact absurd rfl (n1 _ _)
              obtain ⟨tv, t1, t2⟩ := TyX.of L.frz_sub fr m1 hc.2 ht
              exact ⟨_, _, _, tv, us, b, rfl, L.frz_sub _ _ hT, p1, t2, askAny_ok A t1 p2 ea, q _ G H (Alc.refl L.sub) (.bl _)⟩
          · cases ek
    · cases ek
  · cases ek
section
variable {X : Cx} {C : Ctx} {W : WX} {e : Expr} {es' : List Expr} {a : AM} {pos p : Pos} {os es : List Str} {ask : Ask}
theorem call_isTA {Y : Cx} {C : Ctx} (hK : C.K = Y.K) : CallR Y (.builtin "isinstance") (rIsiT C.K) := by
  rw [hK]
  exact call_isiT
/-- isinstance(e, (A, ..)) -/
theorem pm_isiT (hK : C.K = X.K) (A : AskOk C ask) (K : Clss C os es) (hm : X.mg "isinstance" = none) (ha : PA X (e :: es') (rAB C W a)) (hg : Gl X "isinstance" := by rfl)
    (he : starEach (e :: es') X.env = (false, eval e X.env) :: starEach es' X.env := by rfl) (hpl : (backTo pos (starEach es' X.env)).any (·.1) = false := by rfl) : PE X (.Call (.Name "isinstance" p) (e :: es') [] pos) (rE C W (mCall (kIsiT os ask) a)) :=
  pm_cb (ok_isT A K) (call_isTA hK) hm (by with_unfolding_all rfl) ha hg (by decide) (by decide) he hpl
end
end Pu
end

section
set_option maxHeartbeats 2000000
namespace Pu
open PySem PySem.Spec PyProof.Rows L2
/-! ### fuel of loops -/
def fuelI (i : Nat) : Env → Pen → Nat := fun env _ => match env[i]? with
  | some (.val (.int n)) => n.natAbs + 1
  | _ => 0
def fuelC (n : Nat) : Env → Pen → Nat := fun _ _ => n
end Pu
end

section
set_option maxHeartbeats 2000000
namespace Pu
open PySem PySem.Spec PyProof.Rows L2
/-! ### == of lists of different lengths: their items are not looked at -/
def rEqLen (K : PySem.W.Frag) : R2 := fun x y H Q => ∃ (a b : Addr) (xs ys : List V), x = .ref a ∧ y = .ref b ∧ SqL K H a xs ∧ SqL K H b ys ∧ xs.length ≠ ys.length ∧ Q (.bl false) H
theorem op_eqLen {X : Cx} (hu : X.A.units + 64 < cLine) : OpR X (compareOp .Eq) (rEqLen X.K) := by
  intro pins s σ H x y v u Q I rx ry h
  obtain ⟨a, b, xs, ys, rfl, rfl, h1, h2, hn, q⟩ := h
  cases (show v = Value.ref a from rx)
  cases (show u = Value.ref b from ry)
  obtain ⟨i1, r1, l1, _⟩ := I.list h1
  obtain ⟨i2, r2, l2, _⟩ := I.list h2
  obtain ⟨o1, n1, ho1, hc1, _, hd1⟩ := l1
  obtain ⟨o2, n2, ho2, hc2, _, hd2⟩ := l2
  refine SeqAt.RcAt.lists_lengths (A := X.A) (s := s) (items := i1.toArray) (items2 := i2.toArray) ⟨o1, ho1, hc1, n1, hd1⟩ ⟨o2, ho2, hc2, n2, hd2⟩ ?_ (by omega) X.prog X.w _ _ ⟨.bl false, H, I, rfl, q⟩
  have e1 := r1.length
  have e2 := r2.length
  simp only [List.size_toArray, bne_iff_ne, ne_eq]
  omega
def kEqE (d e : D) : Option D := match d, e with
  | .lst xs, .lst ys => if xs.length ≠ ys.length then some (.bl false) else kEq (.lst xs) (.lst ys)
  | d, e => kEq d e
theorem ok_eqE {C : Ctx} {K : PySem.W.Frag} : OpOk C (fun x y H Q => rEqD K x y H Q ∨ rEqLen K x y H Q) kEqE := by
  intro G H σ env p v w d e z Q L rv rw' ek q
  have base : kEq d e = some z → rEqD K v w H Q ∨ rEqLen K v w H Q := fun h => .inl (ok_eq G H σ env p v w d e z Q L rv rw' h q)
  unfold kEqE at ek
  split at ek
  · rename_i xs ys
    split at ek
    · rename_i hn
      cases ek
      obtain ⟨a, ws, rfl, hH, rs⟩ := rv.lst L
      obtain ⟨b, us, rfl, hH2, rs2⟩ := rw'.lst L
      exact .inr ⟨a, b, ws, us, rfl, rfl, SqL.of hH, SqL.of hH2, by rw [rs.length, rs2.length]; exact hn, q _ G H (Alc.refl L.sub) (.bl _)⟩
    · exact base ek
  · exact base ek
section
variable {X : Cx} {C : Ctx} {W : WX} {a b : Expr} {ma mb : EM} {pos : Pos}
theorem pm_eqE (hu : X.A.units + 64 < cLine) (ha : PE X a (rB C W ma)) (hb : PE X b (rB C W mb)) : PE X (.Compare a [.Eq] [b] pos) (rE C W (mOp kEqE ma mb)) := pm_cmp ok_eqE (Pu.op_or (op_eqD hu) (op_eqLen hu)) ha hb (nomark _)
theorem tm_eqE (hu : X.A.units + 64 < cLine) (ha : PE X a (rB C W ma)) (hb : PE X b (rB C W mb)) : PT X (.Compare a [.Eq] [b] pos) (rT C W (mT (mOp kEqE ma mb))) := tm_cmp ok_eqE (Pu.op_or (op_eqD hu) (op_eqLen hu)) ha hb (nomark _)
end
end Pu
end

section
set_option maxHeartbeats 2000000
/-! zip of two sides of any kind: a list and a tuple -/
namespace Pu.Zm
open PySem PySem.Spec PyProof.Rows L2
/-- one side of a zip: an iterator ix over what stands at lx -/
structure Side (prog : Program) (w : World) (ix lx : Addr) (vals : Array Value) (On : Nat → Heap → Prop) : Prop where
  item : ∀ {A : Around} {E : Value → Shared → Prop} {s : Shared} {k : Nat} {x : Value} {Q : Value → Shared → Prop}, On k s.heap → vals[k]? = some x →
    (∀ hn, On (k + 1) hn → Heap.SameBut ix s.heap hn → Q x { s with heap := hn }) → wpAny (model prog w) A (Builtin.SmallTypes.nextOf (.ref ix)) Q E s
  stop : ∀ {A : Around} {E : Value → Shared → Prop} {s : Shared} {k : Nat} {Q : Value → Shared → Prop}, A.handled = none → On k s.heap → vals[k]? = none →
    (∀ hn e, Heap.ExtBut ix s.heap hn → (∃ o, hn.get? e = some o ∧ o.cls = .type "StopIteration") → E (.ref e) { s with heap := hn }) → wpAny (model prog w) A (Builtin.SmallTypes.nextOf (.ref ix)) Q E s
  keep : ∀ {k : Nat} {ha hn : Heap}, On k ha → (∀ o, ha.get? ix = some o → hn.get? ix = some o) → (∀ o, ha.get? lx = some o → hn.get? lx = some o) → On k hn
  room : ∀ {k : Nat} {ha : Heap}, On k ha → ix < ha.objs.size
def OnL (ix lx : Addr) (vals : Array Value) : Nat → Heap → Prop := fun k h => h.IsListIter ix lx k ∧ h.IsList lx vals
def OnT (ix lx : Addr) (vals : Array Value) : Nat → Heap → Prop := fun k h => h.IsTupleIter ix lx k ∧ h.IsTuple lx vals
theorem sideL {prog : Program} {w : World} {ix lx : Addr} {vals : Array Value} (ne : lx ≠ ix) : Side prog w ix lx vals (OnL ix lx vals) where
  item := fun on hx hq => wpAny_nextOf_list_item on.1 on.2 hx fun hn g sb => hq hn ⟨g, on.2.at fun o e => sb.extBut _ _ ne e⟩ sb
  stop := fun hh on hx hq => wpAny_nextOf_list_end hh on.1 on.2 hx hq
  keep := fun on k1 k2 => ⟨on.1.at k1, on.2.at k2⟩
  room := fun on => by
    obtain ⟨⟨_, e, _⟩, _⟩ := on
    exact Heap.lt_size e
theorem sideT {prog : Program} {w : World} {ix lx : Addr} {vals : Array Value} (ne : lx ≠ ix) : Side prog w ix lx vals (OnT ix lx vals) where
  item := fun on hx hq => RZ.nextOf_tuple_item on.1 on.2 hx fun hn g sb => hq hn ⟨g, on.2.at fun o e => sb.extBut _ _ ne e⟩ sb
  stop := fun hh on hx hq => RZ.nextOf_tuple_end hh on.1 on.2 hx hq
  keep := fun on k1 k2 => ⟨on.1.at k1, on.2.at k2⟩
  room := fun on => by
    obtain ⟨⟨_, e, _⟩, _⟩ := on
    exact Heap.lt_size e
section
variable {prog : Program} {w : World} {A : Around} {E : Value → Shared → Prop} {s : Shared} {zz ti to a1 a2 b1 b2 : Addr} {k : Nat} {xs ys : Array Value} {O1 O2 : Nat → Heap → Prop} {p q : Value}
/-- the way to the loop over the sides -/
theorem enter {R : Unit → Shared → Prop} (cont : True) : True := trivial
theorem zip_item {x y : Value} {Q : Value → Shared → Prop} (D : ZipApart zz ti to a1 a2 b1 b2) (S1 : Side prog w a1 b1 xs O1) (S2 : Side prog w a2 b2 ys O2)
    (hz : IsZip s.heap zz ti to .none) (hti : IsPair s.heap ti (.ref a1) (.ref a2)) (hto : IsPair s.heap to p q) (o1 : O1 k s.heap) (o2 : O2 k s.heap) (hx : xs[k]? = some x) (hy : ys[k]? = some y)
    (hq : ∀ hn, IsZip hn zz ti to (rawInt s.heap.objs.size) → IsPair hn to x y → O1 (k + 1) hn → O2 (k + 1) hn → IsPair hn s.heap.objs.size x y → hn.objs.size = s.heap.objs.size + 1 →
      (∀ c o, c ≠ zz → c ≠ to → c ≠ a1 → c ≠ a2 → s.heap.get? c = some o → hn.get? c = some o) → Q (.ref s.heap.objs.size) { s with heap := hn }) :
    wpAny (model prog w) A (Builtin.«zip.__next__» ⟨[.ref zz], []⟩) (fun f s' => ∃ v, f = .done (.ret v) ∧ Q v s') E s := by
  refine wpAny_bind (m := field (.ref zz) 2) (wpAny_field hz rfl (x := .bool false) rfl ?_)
  refine wpAny_bind (m := field (.ref zz) 3) (wpAny_field hz rfl (x := .ref ti) rfl ?_)
  refine wpAny_bind (wpAny_seqItems hti rfl ?_)
  refine wpAny_bind (m := Builtin.SmallTypes.ownedTupleIsFree (.ref zz)) ?_
  unfold Builtin.SmallTypes.ownedTupleIsFree
  refine wpAny_bind (wpAny_field hz rfl (x := .none) rfl (wpAny_pure ?_))
  simp only [if_true]
  refine wpAny_bind (wpAny_rule (wpAny_bind (wpAny_field hz rfl (x := .ref to) rfl ?_)))
  refine wpAny_bind (wpAny_setField_rec hz (by simp) fun g1 (z1 : IsZip g1 zz ti to .ellipsis) e1 => wpAny_bind ?_)
  simp only [List.zipIdx_cons, List.zipIdx_nil, List.forIn_cons, List.forIn_nil]
  refine wpAny_bind (wpAny_bind (wpAny_onRaise (wpAny_bind (m := Builtin.SmallTypes.nextOf (.ref a1)) ?_)))
  have o1' : O1 k g1 := S1.keep o1 (fun o e => e1.extBut _ _ D.i1z e) fun o e => e1.extBut _ _ D.l1z e
  refine S1.item o1' hx fun g2 n1 e2 => wpAny_pure ?_
  have t2 : IsPair g2 to p q := e2.extBut _ _ D.TOi1 (e1.extBut _ _ D.TOz hto)
  refine wpAny_bind (wpAny_seqItems t2 rfl (wpAny_bind (wpAny_updateSeq_pair t2 fun g3 (t3 : IsPair g3 to x q) e3 => wpAny_bind (wpAny_letGo (wpAny_pure ?_)))))
  refine wpAny_bind (wpAny_bind (wpAny_onRaise (wpAny_bind (m := Builtin.SmallTypes.nextOf (.ref a2)) ?_)))
  have o2' : O2 k g3 := S2.keep o2 (fun o e => e3.extBut _ _ D.TOi2.symm (e2.extBut _ _ D.i12.symm (e1.extBut _ _ D.i2z e))) fun o e => e3.extBut _ _ D.l2TO (e2.extBut _ _ D.l2i1 (e1.extBut _ _ D.l2z e))
  refine S2.item o2' hy fun g4 n2 e4 => wpAny_pure ?_
  have t4 : IsPair g4 to x q := e4.extBut _ _ D.TOi2 t3
  refine wpAny_bind (wpAny_seqItems t4 rfl (wpAny_bind (wpAny_updateSeq_pair t4 fun g5 (t5 : IsPair g5 to x y) e5 => wpAny_bind (wpAny_letGo (wpAny_pure (wpAny_pure ?_))))))
  refine wpAny_bind (wpAny_seqItems t5 rfl (wpAny_bind (wpAny_newTuple ?_)))
  have sz : g5.objs.size = s.heap.objs.size := by rw [e5.1, e4.1, e3.1, e2.1, e1.1]
  have z5 : IsZip g5 zz ti to .ellipsis := e5.extBut _ _ D.TOz.symm (e4.extBut _ _ D.i2z.symm (e3.extBut _ _ D.TOz.symm (e2.extBut _ _ D.i1z.symm z1)))
  have k5 : ∀ c o, c ≠ zz → c ≠ to → c ≠ a1 → c ≠ a2 → s.heap.get? c = some o → g5.get? c = some o := fun c o c1 c2 c3 c4 e => e5.extBut _ _ c2 (e4.extBut _ _ c4 (e3.extBut _ _ c2 (e2.extBut _ _ c3 (e1.extBut _ _ c1 e))))
  have m1 : O1 (k + 1) g5 := S1.keep n1 (fun o e => e5.extBut _ _ D.TOi1.symm (e4.extBut _ _ D.i12 (e3.extBut _ _ D.TOi1.symm e))) fun o e => e5.extBut _ _ D.l1TO (e4.extBut _ _ D.l1i2 (e3.extBut _ _ D.l1TO e))
  have m2 : O2 (k + 1) g5 := S2.keep n2 (fun o e => e5.extBut _ _ D.TOi2.symm e) fun o e => e5.extBut _ _ D.l2TO e
  have zl : zz < g5.objs.size := Heap.lt_size z5
  refine wpAny_bind (m := Builtin.SmallTypes.ownedTupleHandOut (.ref zz) (.ref g5.objs.size)) ?_
  unfold Builtin.SmallTypes.ownedTupleHandOut
  have z6 : IsZip (g5.push { cls := .type "tuple", data := .seq #[x, y] }) zz ti to .ellipsis := Heap.get?_push_of_some _ z5
  refine wpAny_bind (wpAny_setField_rec z6 (by simp) fun g7 (z7 : IsZip g7 zz ti to (rawInt g5.objs.size)) e7 => ?_)
  refine wpAny_setField_rec z7 (by simp) fun g8 (z8 : IsZip g8 zz ti to (rawInt g5.objs.size)) e8 => ?_
  have up : ∀ c o, c ≠ zz → g5.get? c = some o → g8.get? c = some o := fun c o c1 e => e8.extBut _ _ c1 (e7.extBut _ _ c1 (Heap.get?_push_of_some _ e))
  have t8 : IsPair g8 g5.objs.size x y := e8.extBut _ _ (Nat.ne_of_gt zl) (e7.extBut _ _ (Nat.ne_of_gt zl) (Heap.get?_push_size _ rfl))
  have sz8 : g8.objs.size = g5.objs.size + 1 := by rw [e8.1, e7.1, Heap.size_push]
  rw [sz] at z8 t8 sz8
  refine wpAny_pure ⟨.ref g5.objs.size, rfl, ?_⟩
  rw [sz]
  exact hq g8 z8 (up _ _ D.TOz t5) (S1.keep m1 (fun o e => up _ o D.i1z e) fun o e => up _ o D.l1z e) (S2.keep m2 (fun o e => up _ o D.i2z e) fun o e => up _ o D.l2z e) t8 sz8 fun c o c1 c2 c3 c4 e => up c o c1 (k5 c o c1 c2 c3 c4 e)
theorem zip_stop {Q : Fin → Shared → Prop} (nh : A.handled = none) (D : ZipApart zz ti to a1 a2 b1 b2) (S1 : Side prog w a1 b1 xs O1) (S2 : Side prog w a2 b2 ys O2)
    (hz : IsZip s.heap zz ti to .none) (hti : IsPair s.heap ti (.ref a1) (.ref a2)) (hto : IsPair s.heap to p q) (o1 : O1 k s.heap) (o2 : O2 k s.heap) (hend : xs[k]? = none ∨ ys[k]? = none)
    (hq : ∀ hn e, (∀ c o, c ≠ zz → c ≠ to → c ≠ a1 → c ≠ a2 → s.heap.get? c = some o → hn.get? c = some o) → (∃ o, hn.get? e = some o ∧ o.cls = .type "StopIteration") → E (.ref e) { s with heap := hn }) :
    wpAny (model prog w) A (Builtin.«zip.__next__» ⟨[.ref zz], []⟩) Q E s := by
  refine wpAny_bind (m := field (.ref zz) 2) (wpAny_field hz rfl (x := .bool false) rfl ?_)
  refine wpAny_bind (m := field (.ref zz) 3) (wpAny_field hz rfl (x := .ref ti) rfl ?_)
  refine wpAny_bind (wpAny_seqItems hti rfl ?_)
  refine wpAny_bind (m := Builtin.SmallTypes.ownedTupleIsFree (.ref zz)) ?_
  unfold Builtin.SmallTypes.ownedTupleIsFree
  refine wpAny_bind (wpAny_field hz rfl (x := .none) rfl (wpAny_pure ?_))
  simp only [if_true]
  refine wpAny_bind (wpAny_rule (wpAny_bind (wpAny_field hz rfl (x := .ref to) rfl ?_)))
  refine wpAny_bind (wpAny_setField_rec hz (by simp) fun g1 (z1 : IsZip g1 zz ti to .ellipsis) e1 => wpAny_bind ?_)
  simp only [List.zipIdx_cons, List.zipIdx_nil, List.forIn_cons, List.forIn_nil]
  refine wpAny_bind (wpAny_bind (wpAny_onRaise (wpAny_bind (m := Builtin.SmallTypes.nextOf (.ref a1)) ?_)))
  have o1' : O1 k g1 := S1.keep o1 (fun o e => e1.extBut _ _ D.i1z e) fun o e => e1.extBut _ _ D.l1z e
  cases hx : xs[k]? with
  | none =>
    refine S1.stop nh o1' hx fun g2 e e2 he => ?_
    obtain ⟨oe, he1, he2⟩ := he
    have z2 : IsZip g2 zz ti to .ellipsis := e2 _ _ D.i1z.symm z1
    have ne : e ≠ zz := fun u => by
      subst u
      rw [z2] at he1
      cases he1
      simp at he2
    exact wpAny_setField_rec z2 (by simp) fun g3 _ e3 => hq g3 e (fun c o c1 _ c3 _ u => e3.extBut _ _ c1 (e2 _ _ c3 (e1.extBut _ _ c1 u))) ⟨oe, e3.extBut _ _ ne he1, he2⟩
  | some x =>
    have hy : ys[k]? = none := by
      rcases hend with h | h
      · rw [hx] at h
        cases h
      · exact h
    refine S1.item o1' hx fun g2 n1 e2 => wpAny_pure ?_
    have t2 : IsPair g2 to p q := e2.extBut _ _ D.TOi1 (e1.extBut _ _ D.TOz hto)
    refine wpAny_bind (wpAny_seqItems t2 rfl (wpAny_bind (wpAny_updateSeq_pair t2 fun g3 (t3 : IsPair g3 to x q) e3 => wpAny_bind (wpAny_letGo (wpAny_pure ?_)))))
    refine wpAny_bind (wpAny_bind (wpAny_onRaise (wpAny_bind (m := Builtin.SmallTypes.nextOf (.ref a2)) ?_)))
    have o2' : O2 k g3 := S2.keep o2 (fun o e => e3.extBut _ _ D.TOi2.symm (e2.extBut _ _ D.i12.symm (e1.extBut _ _ D.i2z e))) fun o e => e3.extBut _ _ D.l2TO (e2.extBut _ _ D.l2i1 (e1.extBut _ _ D.l2z e))
    refine S2.stop nh o2' hy fun g4 e e4 he => ?_
    obtain ⟨oe, he1, he2⟩ := he
    have z4 : IsZip g4 zz ti to .ellipsis := e4 _ _ D.i2z.symm (e3.extBut _ _ D.TOz.symm (e2.extBut _ _ D.i1z.symm z1))
    have ne : e ≠ zz := fun u => by
      subst u
      rw [z4] at he1
      cases he1
      simp at he2
    exact wpAny_setField_rec z4 (by simp) fun g5 _ e5 => hq g5 e (fun c o c1 c2 c3 c4 u => e5.extBut _ _ c1 (e4 _ _ c4 (e3.extBut _ _ c2 (e2.extBut _ _ c3 (e1.extBut _ _ c1 u))))) ⟨oe, e5.extBut _ _ ne he1, he2⟩
end
end Pu.Zm
end

section
set_option maxHeartbeats 2000000
namespace Pu.Zm
open PySem PySem.Spec PyProof.Rows L2
section
variable {prog : Program} {w : World} {A : Around} {E : Value → Shared → Prop} {s : Shared} {zz ti to a1 a2 b1 b2 : Addr} {k : Nat} {xs ys : Array Value} {O1 O2 : Nat → Heap → Prop} {p q : Value}
theorem next_item {x y : Value} {Q : Option Value → Shared → Prop} (D : ZipApart zz ti to a1 a2 b1 b2) (S1 : Side prog w a1 b1 xs O1) (S2 : Side prog w a2 b2 ys O2)
    (hz : IsZip s.heap zz ti to .none) (hti : IsPair s.heap ti (.ref a1) (.ref a2)) (hto : IsPair s.heap to p q) (o1 : O1 k s.heap) (o2 : O2 k s.heap) (hx : xs[k]? = some x) (hy : ys[k]? = some y)
    (hq : ∀ hn, IsZip hn zz ti to (rawInt s.heap.objs.size) → IsPair hn to x y → O1 (k + 1) hn → O2 (k + 1) hn → IsPair hn s.heap.objs.size x y → hn.objs.size = s.heap.objs.size + 1 →
      (∀ c o, c ≠ zz → c ≠ to → c ≠ a1 → c ≠ a2 → s.heap.get? c = some o → hn.get? c = some o) → Q (some (.ref s.heap.objs.size)) { s with heap := hn }) :
    wpAny (model prog w) A (pyNext (.ref zz)) Q E s := by
  have ty : s.TypeIs (.ref zz) "zip" := ⟨_, hz, rfl⟩
  have run := zip_item (A := A.in1) (E := E) (Q := fun v s' => Q (some v) s') D S1 S2 hz hti hto o1 o2 hx hy hq
  unfold pyNext
  refine wpAny_bind (wpAny_attempt (wpAny_callSpecial?_slot (name := Str.ofString "__next__") ty F.slot_zip_next ?_))
  exact wpAny_call_entry F.slot_zip_next ty F.entry_zip_next (zip_item D S1 S2 hz hti hto o1 o2 hx hy fun hn u1 u2 u3 u4 u5 u6 u7 => wpAny_pure (hq hn u1 u2 u3 u4 u5 u6 u7)) (F.args_zip_next_1 _)
theorem next_stop {Q : Option Value → Shared → Prop} (nh : A.handled = none) (D : ZipApart zz ti to a1 a2 b1 b2) (S1 : Side prog w a1 b1 xs O1) (S2 : Side prog w a2 b2 ys O2)
    (hz : IsZip s.heap zz ti to .none) (hti : IsPair s.heap ti (.ref a1) (.ref a2)) (hto : IsPair s.heap to p q) (o1 : O1 k s.heap) (o2 : O2 k s.heap) (hend : xs[k]? = none ∨ ys[k]? = none)
    (hq : ∀ hn, (∀ c o, c ≠ zz → c ≠ to → c ≠ a1 → c ≠ a2 → s.heap.get? c = some o → hn.get? c = some o) → Q none { s with heap := hn }) : wpAny (model prog w) A (pyNext (.ref zz)) Q E s := by
  have ty : s.TypeIs (.ref zz) "zip" := ⟨_, hz, rfl⟩
  unfold pyNext
  refine wpAny_bind (wpAny_attempt (wpAny_callSpecial?_slot (name := Str.ofString "__next__") ty F.slot_zip_next ?_))
  refine wpAny_call_entry F.slot_zip_next ty F.entry_zip_next (zip_stop nh D S1 S2 hz hti hto o1 o2 hend fun hn e keep ⟨o, ho, hc⟩ => ?_) (F.args_zip_next_1 _)
  exact wpAny_bind (wpAny_isInstance (T := "StopIteration") (b := true) ⟨o, ho, hc⟩ isSubtype_stop (wpAny_pure (hq _ keep)))
end
/-! ### a zip is made of a list and a tuple -/
def itO (c : String) (l : Addr) : Obj := { cls := .type c, data := .fields #[.ref l, .int 0 0] }
def prO (x y : Value) : Obj := { cls := .type "tuple", data := .seq #[x, y] }
def m1 (h : Heap) (l1 : Addr) : Heap := h.push (itO "list_iterator" l1)
def m2 (h : Heap) (l1 l2 : Addr) : Heap := (m1 h l1).push (itO "tuple_iterator" l2)
def m3 (h : Heap) (l1 l2 : Addr) : Heap := (m2 h l1 l2).push (prO (.ref h.objs.size) (.ref (m1 h l1).objs.size))
def m4 (h : Heap) (l1 l2 : Addr) : Heap := (m3 h l1 l2).push (prO .none .none)
def m5 (h : Heap) (l1 l2 : Addr) : Heap := (m4 h l1 l2).push { cls := .type "zip", data := .fields #[.none, .bool false, .bool false, .ref (m2 h l1 l2).objs.size, .ref (m3 h l1 l2).objs.size] }
theorem new_zip (l1 l2 : Addr) (xs ys : Array Value) : Meets (Builtin.«zip.__new__» ⟨[.type "zip", .ref l1, .ref l2], []⟩) fun _ R s =>
    s.heap.IsList l1 xs ∧ s.heap.IsTuple l2 ys ∧ R (.ok (.ret (.ref (m4 s.heap l1 l2).objs.size))) { s with heap := m5 s.heap l1 l2 } := .of_wp fun prog w A R s h => by
  obtain ⟨hp, g, d, tk, os⟩ := s
  obtain ⟨il, it, r⟩ := h
  have hsub := sub_zip
  have k1 : Heap.IsList (Shared.heap ⟨hp, g, d, tk, os⟩) l1 xs := il
  have k2 : Heap.IsTuple (Shared.heap ⟨hp.push (itO "list_iterator" l1), g, d, tk, os⟩) l2 ys := Heap.IsTuple.push it _
  unfold itO at k2
  wp_walk using wpAny_pyIter_list k1, wpAny_pyIter_tuple k2
  exact ⟨_, rfl, r⟩
section
variable {prog : Program} {w : World} {A : Around} {E : Value → Shared → Prop} {s : Shared}
theorem push2 {h : Heap} {a : Addr} {o : Obj} (u : Obj) (e : h.get? a = some o) : (h.push u).get? a = some o := Heap.get?_push_of_some _ e
theorem call_lt {l1 l2 : Addr} {xs ys : Array Value} {Q : Value → Shared → Prop} (il : s.heap.IsList l1 xs) (it : s.heap.IsTuple l2 ys)
    (r : ∀ hn, IsZip hn (s.heap.objs.size + 4) (s.heap.objs.size + 2) (s.heap.objs.size + 3) .none → IsPair hn (s.heap.objs.size + 2) (.ref s.heap.objs.size) (.ref (s.heap.objs.size + 1)) → IsPair hn (s.heap.objs.size + 3) .none .none →
      hn.IsListIter s.heap.objs.size l1 0 → hn.IsTupleIter (s.heap.objs.size + 1) l2 0 → (∀ c o, s.heap.get? c = some o → hn.get? c = some o) → Q (.ref (s.heap.objs.size + 4)) { s with heap := hn }) :
    wpAny (model prog w) A (call (.type "zip") [.ref l1, .ref l2]) Q E s := by
  refine callType_new F.called_zip (by decide) (F.typeCall_zip_2 _ _) (F.newCall_zip_2 _ _) (fun u => F.args_object_init_3 u _ _) F.entry_zip_new (new_zip l1 l2 xs ys) ⟨il, it, ?_⟩
  have n1 : (m1 s.heap l1).objs.size = s.heap.objs.size + 1 := Heap.size_push ..
  have n2 : (m2 s.heap l1 l2).objs.size = s.heap.objs.size + 2 := (Heap.size_push ..).trans (by rw [n1])
  have n3 : (m3 s.heap l1 l2).objs.size = s.heap.objs.size + 3 := (Heap.size_push ..).trans (by rw [n2])
  have n4 : (m4 s.heap l1 l2).objs.size = s.heap.objs.size + 4 := (Heap.size_push ..).trans (by rw [n3])
  have f5 : (m5 s.heap l1 l2).get? (m4 s.heap l1 l2).objs.size = some _ := Heap.get?_push_size _ rfl
  have f4 : (m5 s.heap l1 l2).get? (m3 s.heap l1 l2).objs.size = some (prO .none .none) := push2 _ (Heap.get?_push_size _ rfl)
  have f3 : (m5 s.heap l1 l2).get? (m2 s.heap l1 l2).objs.size = some (prO (.ref s.heap.objs.size) (.ref (m1 s.heap l1).objs.size)) := push2 _ (push2 _ (Heap.get?_push_size _ rfl))
  have f2 : (m5 s.heap l1 l2).get? (m1 s.heap l1).objs.size = some (itO "tuple_iterator" l2) := push2 _ (push2 _ (push2 _ (Heap.get?_push_size _ rfl)))
  have f1 : (m5 s.heap l1 l2).get? s.heap.objs.size = some (itO "list_iterator" l1) := push2 _ (push2 _ (push2 _ (push2 _ (Heap.get?_push_size _ rfl))))
  show _ ∧ _
  rw [n2, n3, n4] at f5
  rw [n1, n2] at f3
  rw [n3] at f4
  rw [n1] at f2
  rw [n4]
  exact ⟨⟨_, f5, rfl⟩, r _ f5 f3 f4 ⟨_, f1, rfl, rfl⟩ ⟨_, f2, rfl, rfl⟩ fun c o e => push2 _ (push2 _ (push2 _ (push2 _ (push2 _ e))))⟩
end
end Pu.Zm
end

section
set_option maxHeartbeats 2000000
namespace Pu
open PySem PySem.Spec PyProof.Rows L2
/-! ### for .. in zip(xs, ys), a list and a tuple -/
def Itm (K : PySem.W.Frag) (a b : Addr) : It where
  go i H := ∃ (us vs : List V) (u v : V), SqL K H a us ∧ SqT K H b vs ∧ us[i]? = some u ∧ vs[i]? = some v
  yld i H r H' := ∃ T u v, r = .ref T ∧ H T = none ∧ H' = upd H T (.tup [u, v]) ∧ (∀ us, SqL K H a us → us[i]? = some u) ∧ ∀ vs, SqT K H b vs → vs[i]? = some v
  stop i H := ∃ us vs : List V, SqL K H a us ∧ SqT K H b vs ∧ (us.length ≤ i ∨ vs.length ≤ i)
/-- the zip's own objects at the i-th turn -/
structure ZSt (zz ti to i1 i2 a b : Addr) (i : Nat) (h : Heap) : Prop where
  z : IsZip h zz ti to .none
  p : IsPair h ti (.ref i1) (.ref i2)
  o : ∃ u v, IsPair h to u v
  l : h.IsListIter i1 a i
  t : h.IsTupleIter i2 b i
theorem turn_m {P : Program} {w : World} {K : PySem.W.Frag} {elts : List Expr} {kk : Nat} {tpos : Pos} {a b zz ti to i1 i2 : Addr} (D : ZipApart zz ti to i1 i2 a b) : Turn P w K (.Tuple elts kk tpos) (Itm K a b) [zz, ti, to, i1, i2] zz (ZSt zz ti to i1 i2 a b) where
  mem := List.mem_cons_self
  obj i h S c hc := by
    obtain ⟨_, _, z3⟩ := S.o
    obtain ⟨oL, l1, _, l3⟩ := S.l
    obtain ⟨oT, t1, _, t3⟩ := S.t
    simp only [List.mem_cons, List.not_mem_nil, or_false] at hc
    rcases hc with rfl | rfl | rfl | rfl | rfl
    · exact ⟨_, S.z, fun v => nofun⟩
    · exact ⟨_, S.p, fun v => nofun⟩
    · exact ⟨_, z3, fun v => nofun⟩
    · exact ⟨_, l1, fun v q => by rw [l3] at q; cases q⟩
    · exact ⟨_, t1, fun v q => by rw [t3] at q; cases q⟩
  keep i h h' S k := by
    obtain ⟨u, v, z3⟩ := S.o
    exact ⟨k zz (by simp) _ S.z, k ti (by simp) _ S.p, ⟨u, v, k to (by simp) _ z3⟩, S.l.at fun o => k i1 (by simp) o, S.t.at fun o => k i2 (by simp) o⟩
  item := by
    intro X e1 e2 e3 _ i pins s σ H E I ff S go
    subst e1 e2 e3
    obtain ⟨u0, v0, z3⟩ := S.o
    obtain ⟨us, vs, u, v, q1, q2, g1, g2⟩ := go
    obtain ⟨L1, r1, il, _⟩ := I.list q1
    obtain ⟨L2, r2, it, _⟩ := I.tuple q2
    obtain ⟨x1, y1, w1⟩ := r1.get g1
    obtain ⟨x2, y2, w2⟩ := r2.get g2
    have zl : zz < s.heap.objs.size := Heap.lt_size S.z
    refine Zm.next_item D (Zm.sideL (vals := L1.toArray) D.l1i1) (Zm.sideT (vals := L2.toArray) D.l2i2) S.z S.p z3 ⟨S.l, il.isList⟩ ⟨S.t, it⟩ (x := x1) (y := x2) (by simpa using y1) (by simpa using y2) fun hn zn on l' t' pn sz keep => ?_
    refine ⟨_, rfl, wpAny_letOwnedTupleGo_zip (s := { s with heap := hn }) zn fun h2 z2 sb => ?_⟩
    have p2 : h2.get? s.heap.objs.size = some { cls := .type "tuple", data := .seq #[x1, x2] } := (sb.2 _ (Nat.ne_of_gt zl)).trans pn
    have ok : ObjOk X.prog X.w (upd H s.heap.objs.size (.tup [u, v])) h2 s.heap.objs.size (.tup [u, v]) := ⟨by show 2 ≤ sizeLine; decide, [x1, x2], .cons w1 (.cons w2 .nil), _, p2, rfl, _, rfl⟩
    have J : Inv X pins σ (upd H s.heap.objs.size (.tup [u, v])) { s with heap := h2 } := I.turnedNew (t' := s.toks) (ch := [zz, ti, to, i1, i2]) (fun c o n e => by
      simp only [List.mem_cons, List.not_mem_nil, or_false, not_or] at n
      obtain ⟨n1, n2, n3, n4, n5⟩ := n
      exact (sb.2 c n1).trans (keep c o n1 n3 n4 n5 e)) ff (Nat.le_refl _) ok
    refine ⟨.ref s.heap.objs.size, _, J, rfl, ⟨_, u, v, rfl, I.hok.fresh (Nat.le_refl _), rfl, fun l hl => by rw [I.list_inj hl q1]; exact g1, fun l hl => by rw [I.tuple_inj hl q2]; exact g2⟩, ⟨z2, ?_, ⟨x1, x2, ?_⟩, ?_, ?_⟩, fun c hcm => ?_⟩
    · exact (sb.2 _ D.TIz).trans (keep _ _ D.TIz D.TITO D.TIi1 D.TIi2 S.p)
    · exact (sb.2 _ D.TOz).trans on
    · exact l'.1.at fun o e => (sb.2 _ D.i1z).trans e
    · exact t'.1.at fun o e => (sb.2 _ D.i2z).trans e
    · have lt : c < s.heap.objs.size := by
        obtain ⟨_, l1, _⟩ := S.l
        obtain ⟨_, t1, _⟩ := S.t
        have hm := hcm
        simp only [List.mem_cons, List.not_mem_nil, or_false] at hm
        rcases hm with rfl | rfl | rfl | rfl | rfl
        · exact zl
        · exact Heap.lt_size S.p
        · exact Heap.lt_size z3
        · exact Heap.lt_size l1
        · exact Heap.lt_size t1
      rw [upd_ne (Nat.ne_of_lt lt)]
      exact (ff c hcm).1
  done := by
    intro X e1 e2 e3 calm i pins s σ H E I ff S st
    subst e1 e2 e3
    obtain ⟨u0, v0, z3⟩ := S.o
    obtain ⟨us, vs, q1, q2, hend⟩ := st
    obtain ⟨L1, r1, il, _⟩ := I.list q1
    obtain ⟨L2, r2, it, _⟩ := I.tuple q2
    have n1 := r1.length
    have n2 := r2.length
    have he : L1.toArray[i]? = none ∨ L2.toArray[i]? = none := hend.imp (fun q => by simp; omega) fun q => by simp; omega
    refine Zm.next_stop (I.ok.hd calm) D (Zm.sideL (vals := L1.toArray) D.l1i1) (Zm.sideT (vals := L2.toArray) D.l2i2) S.z S.p z3 ⟨S.l, il.isList⟩ ⟨S.t, it⟩ he fun hn keep => ⟨rfl, I.turnedL (t' := s.toks) (ch := [zz, ti, to, i1, i2]) (fun c o n e => ?_) ff⟩
    simp only [List.mem_cons, List.not_mem_nil, or_false, not_or] at n
    obtain ⟨m1, m2, m3, m4, m5⟩ := n
    exact keep c o m1 m3 m4 m5 e
  self A i s Q E S h := wpAny_pyIter_zip S.z h
def iZipM (K : PySem.W.Frag) (ta : TA) : TI := fun σ H R => ta σ H fun vs H1 => ∃ a b xs ys, vs = [.ref a, .ref b] ∧ ((SqL K H1 a xs ∧ SqL K H1 b ys ∧ R (Itz K a b) H1) ∨ ((SqT K H1 a xs ∧ SqT K H1 b ys ∧ R (RZ.ItzT K a b) H1) ∨ (SqL K H1 a xs ∧ SqT K H1 b ys ∧ R (Itm K a b) H1)))
theorem pi_zipM {X : Cx} {e e2 : Expr} {ta : TA} {p pos tpos : Pos} {elts : List Expr} {kk : Nat} (hg : Gl X "zip") (hm : X.mg "zip" = none) (ha : PA X [e, e2] ta)
    (hs : starEach [e, e2] X.env = (false, eval e X.env) :: starEach [e2] X.env := by rfl) (hpl : (backTo pos (starEach [e2] X.env)).any (·.1) = false := by rfl) : PI X (.Tuple elts kk tpos) (.Call (.Name "zip" p) [e, e2] [] pos) (iZipM X.K ta) := by
  refine ⟨fun pins s σ H R I h => Call_ (ld_blt I hg hm PyProof.Rows.boot_zip (PyProof.Rows.callWith_type1 (thn (ha.run pos pins s σ H _ I h) fun us s1 ⟨vs, H1, I1, r1, a, b, xs, ys, ex, q1⟩ => ?_) hs hpl))⟩
  subst ex
  obtain ⟨u1, u2, rfl, rfl, rfl⟩ : ∃ u1 u2, us = [u1, u2] ∧ u1 = Value.ref a ∧ u2 = Value.ref b := by
    cases r1 with
    | cons c1 t1 =>
      cases t1 with
      | cons c2 t2 =>
        cases t2
        exact ⟨_, _, rfl, c1, c2⟩
  let n := s1.heap.objs.size
  have new : ∀ c ∈ [n + 4, n + 2, n + 3, n, n + 1], FpOk X pins H1 c := fun c hc => by
    have le : n ≤ c := by
      simp only [List.mem_cons, List.not_mem_nil, or_false] at hc
      omega
    exact I1.fpOk le (I1.hok.fresh le)
  rcases q1 with ⟨q1, q2, q⟩ | ⟨q1, q2, q⟩ | ⟨q1, q2, q⟩
  · obtain ⟨L1, _, p1, _⟩ := I1.list q1
    obtain ⟨L2, _, p2, _⟩ := I1.list q2
    refine call_zip_2 p1.isList p2.isList fun hn z1 z2 z3 z4 z5 _ keep => wpAny_pyIter_zip z1 ?_
    exact ⟨n + 4, [n + 4, n + 2, n + 3, n, n + 1], _, _, H1, rfl, I1.kept (t' := s1.toks) keep, turn_zip (PySem.W.ktu_apart n a b p1.lt p2.lt), ⟨z1, z2, ⟨_, _, z3⟩, z4, z5⟩, new, q⟩
  · obtain ⟨L1, _, p1, _⟩ := I1.tuple q1
    obtain ⟨L2, _, p2, _⟩ := I1.tuple q2
    have ⟨_, g1, _⟩ := p1
    have ⟨_, g2, _⟩ := p2
    refine RZ.call_zipT (xs := L1.toArray) (ys := L2.toArray) p1 p2 fun hn z1 z2 z3 z4 z5 _ keep => wpAny_pyIter_zip z1 ?_
    exact ⟨n + 4, [n + 4, n + 2, n + 3, n, n + 1], _, _, H1, rfl, I1.kept (t' := s1.toks) keep, RZ.turn_zipT (PySem.W.ktu_apart n a b (Heap.lt_size g1) (Heap.lt_size g2)), ⟨z1, z2, ⟨_, _, z3⟩, z4, z5⟩, new, q⟩
  · obtain ⟨L1, _, p1, _⟩ := I1.list q1
    obtain ⟨L2, _, p2, _⟩ := I1.tuple q2
    have ⟨_, g2, _⟩ := p2
    refine Zm.call_lt (xs := L1.toArray) (ys := L2.toArray) p1.isList p2 fun hn z1 z2 z3 z4 z5 keep => wpAny_pyIter_zip z1 ?_
    exact ⟨n + 4, [n + 4, n + 2, n + 3, n, n + 1], _, _, H1, rfl, I1.kept (t' := s1.toks) keep, turn_m (PySem.W.ktu_apart n a b p1.lt (Heap.lt_size g2)), ⟨z1, z2, ⟨_, _, z3⟩, z4, z5⟩, new, q⟩
/-! #### the mirror -/
section
variable {C : Ctx} {K : PySem.W.Frag} {fz : Bool} {G H : Hp} {a b : Addr} {vs ws : List V} {ds es : List D}
theorem walk_m {n : Nat} {xs ys : List V} (hn : n = min xs.length ys.length) : Walk (Itm K a b) n (fun H => SqL K H a xs ∧ SqT K H b ys) (YPair (fun i => xs[i]?) (fun i => ys[i]?)) := by
  subst hn
  refine ⟨fun i H hi q => ?_, fun H q => ⟨xs, ys, q.1, q.2, by omega⟩, fun i H v H' hi q y => ?_⟩
  · have c1 : i < xs.length := by omega
    have c2 : i < ys.length := by omega
    exact ⟨xs, ys, xs[i], ys[i], q.1, q.2, List.getElem?_eq_getElem c1, List.getElem?_eq_getElem c2⟩
  · obtain ⟨T, x, z, y1, y2, y3, y4, y5⟩ := y
    exact ⟨T, x, z, y1, y2, y3, y4 xs q.1, y5 ys q.2⟩
theorem it_zipM (s : Stay C fz G H a (.lst vs)) (t : Stay C fz G H b (.tup ws)) (r : Reps C G vs ds) (q : Reps C G ws es) : ItOk C fz G H (Itm K a b) (zipD ds es) := by
  have w := walk_m (K := K) (a := a) (b := b) (xs := vs) (ys := ws) (n := (zipD ds es).length) (by rw [zipD_len, r.length, q.length])
  refine ⟨_, _, w, fun G' H' s1 s2 k => ⟨SqL.of (s.at s1 s2 k fun _ z => by cases z), SqT.of (t.at s1 s2 k fun _ z => by cases z)⟩, fun i d G' H' x H'' hd s1 s2 y => ?_⟩
  obtain ⟨d1, d2, h1, h2, rfl⟩ := zip_at hd
  exact pair_rep s2 (rep_at r s1 h1) (rep_at q s1 h2) y
end
/-- zip of two lists, of two tuples, of a list and a tuple -/
def kZipM : List D → Option (List D)
  | [.lst xs, .lst ys] => some (zipD xs ys)
  | [.tup xs, .tup ys] => some (zipD xs ys)
  | [.lst xs, .tup ys] => some (zipD xs ys)
  | _ => none
def mZipM (a : AM) : AM := fun env p => (a env p).bind fun ds q => match kZipM ds with
  | some z => .ok z q
  | none => .bad
theorem Reps.pair {C : Ctx} {G : Hp} {vs : List V} {d e : D} (h : Reps C G vs [d, e]) : ∃ v w, vs = [v, w] ∧ Rep C G v d ∧ Rep C G w e := by
  cases h with
  | cons h t =>
    cases t with
    | cons h2 t =>
      cases t
      exact ⟨_, _, rfl, h, h2⟩
section
variable {X : Cx} {C : Ctx} {W : WX} {fz : Bool} {e e2 : Expr} {a : AM} {p pos : Pos}
theorem im_zipM {elts : List Expr} {kk : Nat} {tpos : Pos} (hK : C.K = X.K) (hm : X.mg "zip" = none) (h : PA X [e, e2] (rA C W a)) (hg : Gl X "zip" := by rfl) (hs : starEach [e, e2] X.env = (false, eval e X.env) :: starEach [e2] X.env := by rfl) (hpl : (backTo pos (starEach [e2] X.env)).any (·.1) = false := by rfl) :
    PI X (.Tuple elts kk tpos) (.Call (.Name "zip" p) [e, e2] [] pos) (rI C W fz (mZipM a)) := (pi_zipM hg hm h hs hpl).of fun σ H R ⟨G, env, p, L, o⟩ => by
  refine ⟨G, env, p, L, o.bind.imp (fun ds q z vs G1 H1 x1 y1 r1 => ?_) fun _ _ z => z⟩
  unfold kZipM at z
  split at z
  · rename_i u hu
    split at hu
    · cases hu
      obtain ⟨v1, v2, rfl, c1, c2⟩ := r1.pair
      cases c1 with
      | lst h1 q1 =>
        cases c2 with
        | lst h2 q2 => exact ⟨_, _, _, _, rfl, .inl ⟨SqL.of (x1.sub _ _ h1), SqL.of (x1.sub _ _ h2), z _ G1 H1 x1 y1 (it_zipL (.inl h1) (.inl h2) q1 q2)⟩⟩
    · cases hu
      obtain ⟨v1, v2, rfl, c1, c2⟩ := r1.pair
      cases c1 with
      | tup h1 q1 =>
        cases c2 with
        | tup h2 q2 => exact ⟨_, _, _, _, rfl, .inr (.inl ⟨SqT.of (x1.sub _ _ h1), SqT.of (x1.sub _ _ h2), z _ G1 H1 x1 y1 (it_zipT (.inl h1) (.inl h2) q1 q2)⟩)⟩
    · cases hu
      obtain ⟨v1, v2, rfl, c1, c2⟩ := r1.pair
      cases c1 with
      | lst h1 q1 =>
        cases c2 with
        | tup h2 q2 => exact ⟨_, _, _, _, rfl, .inr (.inr ⟨SqL.of (x1.sub _ _ h1), SqT.of (x1.sub _ _ h2), z _ G1 H1 x1 y1 (it_zipM (.inl h1) (.inl h2) q1 q2)⟩)⟩
    · cases hu
  · exact z.elim
end
end Pu
end

section
set_option maxHeartbeats 2000000
namespace Pu
open PySem PySem.Spec PyProof.Rows L2
/-! ### targets that are subscripts: xs[i], ys[j] = a, b -/
abbrev XM := D → SM
abbrev XMs := List D → SM
abbrev endX (Q : St → Hp → Prop) : Ends := { nx := Q, rt := fun _ _ => False, bk := fun _ _ => False, ct := fun _ _ => False }
def rX (C : Ctx) (W : WX) (g : XM) : TG := fun v σ H Q => ∃ G0 H0 G env p d, SOk C G0 H0 G H σ env p ∧ Rep C G v d ∧ ResP C W G0 H0 G (endX Q) (g d env p)
def rXs (C : Ctx) (W : WX) (g : XMs) : TGs := fun vs σ H Q => ∃ G0 H0 G env p ds, SOk C G0 H0 G H σ env p ∧ Reps C G vs ds ∧ ResP C W G0 H0 G (endX Q) (g ds env p)
def xNm (i : Nat) : XM := fun d env p => .next (env.set i (.val d)) p
def xIx (i : Nat) (ma : EM) : XM := fun d env p => match env[i]? with
  | some (.own ds) => (ma env p).res env fun k q => match k with
    | .int n => match ixN ds.length n with
      | some j => .next (env.set i (.own (ds.set j d))) q
      | none => .bad
    | _ => .bad
  | _ => .bad
def xsNil : XMs := fun ds env p => match ds with
  | [] => .next env p
  | _ => .bad
def xsCons (g : XM) (gs : XMs) : XMs := fun ds env p => match ds with
  | d :: r => (match g d env p with
    | .next env2 q => gs r env2 q
    | .err e env2 q => .err e env2 q
    | _ => .bad)
  | [] => .bad
def xTp (n : Nat) (gs : XMs) : XM := fun d env p => match d with
  | .tup ds => if ds.length = n then gs ds env p else .bad
  | _ => .bad
def onlyX (r : Res) : Res := match r with
  | .next env q => .next env q
  | .err e env q => .err e env q
  | _ => .bad
def mSetX (m : EM) (g : XM) : SM := fun env p => (m env p).res env fun d q => onlyX (g d env q)
section
variable {X : Cx} {C : Ctx} {W : WX} {x : Str} {m ma : EM} {pos : Pos}
theorem xm_name (i : Nat) (hN : X.N.Nodup) (hi : X.N[i]? = some x := by rfl) (hx : Loc X.env.scope x := by first | exact Or.inl rfl | exact Or.inr rfl) (hf : X.fn x = true ∨ X.env.scope.names.lookup x = some .local := by first | exact .inl rfl | exact .inr rfl) : PG X (.Name x pos) (rX C W (xNm i)) :=
  (pg_name hN hi hx hf).of fun v σ H Q ⟨G0, H0, G, env, p, d, S, r, o⟩ => o _ G H (S.setV i r) (Sub.refl _)
theorem xm_ix (i : Nat) {p1 sp : Pos} {a : Expr} (ha : PE X a (rB C W ma)) (hN : X.N[i]? = some x := by rfl) (hv : Vis X.env.scope x := by first | exact Or.inl rfl | exact Or.inr (Or.inl rfl) | exact Or.inr (Or.inr rfl)) (hd : (x == ("__debug__" : Str)) = false := by decide)
    (hcd : (x == ("__classdict__" : Str)) = false := by decide)
    (hg : ∀ v, assign (.Subscript (.Name x p1) a sp) X.env v = (do
      let ov ← holding [v] (eval (.Name x p1) X.env)
      let iv ← holding [v, ov] (eval a X.env)
      standAt sp
      holding [v, ov, iv] (setItem ov iv v)
      release [v, ov, iv] []) := by intro _; rfl) : PG X (.Subscript (.Name x p1) a sp) (rX C W (xIx i ma)) :=
  (pg_sub (pe_var hN hv hd hcd) ha set_list hg).of fun v σ H Q ⟨G0, H0, G, env, p, d, S, r, o⟩ => by
    unfold xIx at o
    split at o
    · rename_i ds hi
      obtain ⟨l, vs, k1, k2, k3⟩ := S.ownAt hi
      refine ⟨_, k1, G, env, p, S.l, (o.out S).imp (fun k q z u G2 H2 x2 y2 r2 => ?_) fun _ _ z => z⟩
      have S2 := S.step x2 y2
      split at z
      · rename_i n
        split at z
        · rename_i j hj
          refine ⟨l, vs, n, j, rfl, r2.int, x2.stayL S.l.pen k2, by rw [k3.length]; exact hj, ?_⟩
          exact z σ G2 _ (S2.updO hi k1 ((k3.mono x2.gro).set j (r.mono x2.gro))) x2.gro
        · exact z.elim
      · exact z.elim
    · exact o.elim
theorem xs_nil : PGs X [] (rXs C W xsNil) := pgs_nil.of fun vs σ H Q ⟨G0, H0, G, env, p, ds, S, r, o⟩ => by
  cases r with
  | nil => exact ⟨rfl, o σ G H S (Sub.refl _)⟩
  | cons _ _ => exact o.elim
theorem xs_cons {e : Expr} {es : List Expr} {g : XM} {gs : XMs} (h1 : PG X e (rX C W g)) (h2 : PGs X es (rXs C W gs)) (hs : (assignEach (e :: es) X.env).map (·.2) = assign e X.env :: (assignEach es X.env).map (·.2) := by rfl) : PGs X (e :: es) (rXs C W (xsCons g gs)) :=
  (pgs_cons h1 h2 hs).of fun vs σ H Q ⟨G0, H0, G, env, p, ds, S, r, o⟩ => by
    cases r with
    | nil => exact o.elim
    | @cons v d vs ds r1 r2 =>
      refine ⟨v, vs, rfl, G0, H0, G, env, p, d, S, r1, ?_⟩
      have o1 : ResP C W G0 H0 G (endX Q) (match g d env p with
        | .next env2 q => gs ds env2 q
        | .err e env2 q => .err e env2 q
        | _ => .bad) := o
      cases eg : g d env p with
      | next env2 q =>
        rw [eg] at o1
        exact fun σ' G' H' S' s' => ⟨G0, H0, G', env2, q, ds, S', r2.mono s', o1.gro s'⟩
      | err e env2 q =>
        rw [eg] at o1
        exact o1
      | ret _ _ => rw [eg] at o1; exact o1.elim
      | brk _ _ => rw [eg] at o1; exact o1.elim
      | cnt _ _ => rw [eg] at o1; exact o1.elim
      | bad => rw [eg] at o1; exact o1.elim
theorem xm_tup {es : List Expr} {k n : Nat} {gs : XMs} (hc : X.calm = true) (h : PGs X es (rXs C W gs)) (hn : (assignEach es X.env).length = n := by rfl) (hst : (assignEach es X.env).findIdx? (·.1) = none := by rfl) : PG X (.Tuple es k pos) (rX C W (xTp n gs)) :=
  (pg_tup hc h hn hst).of fun v σ H Q ⟨G0, H0, G, env, p, d, S, r, o⟩ => by
    cases r with
    | @tup a vs ds h1 r1 =>
      have o1 : ResP C W G0 H0 G (endX Q) (if ds.length = n then gs ds env p else .bad) := o
      by_cases hl : ds.length = n
      · rw [if_pos hl] at o1
        exact ⟨a, vs, rfl, SqT.of (S.l.sub _ _ h1), by rw [r1.length]; exact hl, G0, H0, G, env, p, ds, S, r1, o1⟩
      · rw [if_neg hl] at o1
        exact o1.elim
    | _ => exact False.elim o
theorem sm_asgX {tg e : Expr} {g : XM} (h : PE X e (rE C W m)) (hg : PG X tg (rX C W g)) (hs : swapsWithSole [tg] e pos.line X.env = pure false := by rfl) (hw : swappedStores [tg] e X.env = pure none := by rfl)
    (h1 : (assignEach [tg] X.env).map (·.2) = [assign tg X.env] := by rfl) : PS X (.Assign [tg] e pos) (rS C W (mSetX m g)) := (ps_asg h hg hs hw h1).of fun D σ H ⟨G0, H0, G, env, p, S, o⟩ => by
  refine ⟨G, env, p, S.l, (o.out S).imp (fun d q z v G1 H1 x1 y1 r1 => ?_) fun _ _ z => z⟩
  refine ⟨G0, H0, G1, env, q, d, S.step x1 y1, r1, ?_⟩
  have z1 := z.gro x1.gro
  unfold onlyX at z1
  cases eg : g d env q with
  | next env2 q2 => rw [eg] at z1; exact z1
  | err e env2 q2 => rw [eg] at z1; exact z1
  | ret _ _ => rw [eg] at z1; exact z1.elim
  | brk _ _ => rw [eg] at z1; exact z1.elim
  | cnt _ _ => rw [eg] at z1; exact z1.elim
  | bad => rw [eg] at z1; exact z1.elim
end
end Pu
end

section
set_option maxHeartbeats 2000000
namespace Pu
open PySem PySem.Spec PyProof.Rows L2
/-! ### the head's hook with the looked-at places given -/
def obsL (pl : List Addr) (fa : List He.Fa) (fn : List He.DefD) (tf : List He.Defn) (ex : PySem.W.Frag → Bool) (g : Addr → Option Obj) : He.AlX := (fun K => (He.obsT fa fn [] K, ex K && He.tabsB g tf K)) (He.frT g pl)
theorem saysL {pl : List Addr} {fa : List He.Fa} {fn : List He.DefD} {tf : List He.Defn} {ex : PySem.W.Frag → Bool} {w : World} {h : Heap} (e : obsL pl fa fn tf ex h.get? = He.valX fn [] w) : He.SaysX fa fn [] tf ex w h (He.frT h.get? pl) := by
  unfold obsL He.valX at e
  obtain ⟨e1, e2⟩ := Prod.mk.inj e
  rw [Bool.and_eq_true] at e2
  have tab : ∀ p ∈ tf, PySem.W.codeHdIn (He.frT h.get? pl) (He.cT (He.frT h.get? pl) p).1 (He.cT (He.frT h.get? pl) p).2 = true ∧ ∃ o, h.get? (He.cT (He.frT h.get? pl) p).2 = some o ∧ He.emptyTab o = true := fun p hp => by
    have q := List.all_eq_true.mp e2.2 p hp
    rw [Bool.and_eq_true] at q
    refine ⟨q.1, ?_⟩
    have q2 := q.2
    split at q2
    · rename_i o eo
      exact ⟨o, eo, q2⟩
    · cases q2
  refine ⟨e1, e2.1, fun p hp => (tab p hp).1, fun p hp => ?_, fun p hp => ?_⟩
  · obtain ⟨o, h1, h2⟩ := (tab p hp).2
    exact He.frT_none h1 h2
  · obtain ⟨o, h1, h2⟩ := (tab p hp).2
    exact h1.trans (congrArg some (He.emptyTab_eq h2))
def hookL (pl : List Addr) (fa : List He.Fa) (fn : List He.DefD) (tf : List He.Defn) (ex : PySem.W.Frag → Bool) : PySem.W.Hook where
  α := He.AlX
  obs s := obsL pl fa fn tf ex s.heap.get?
  val w := He.valX fn [] w
  says w h := ∃ K : PySem.W.Frag, K.In h ∧ He.SaysX fa fn [] tf ex w h K
  of _ _ e := ⟨_, He.frT_in, saysL e⟩
  keeps _ _ _ := fun ⟨K, i, c⟩ k => ⟨K, i.keeps k, c.t, c.more, c.hd, c.out, fun p hp => k _ _ (c.empty p hp)⟩
/-! ### the head's run, in two parts -/
section
open PySem.W HandSHeadRun
variable {r : OpenRow} {q : Program} {H : Hook} {ob : SharedT → H.α} {M : Nat} {loose : List PySem.Str} {w : World}
theorem run2I (a : (wholeF (fun p => stepQ (denQ tabQ) p w) fenceQ M r.prog).map (fun x => (looksF r.prog x.1.heap x.2.abs, seenQ q loose (importedModules r.prog.main.body) (fun s => xlAt q [] s && recOk r.toRowW.records s) x.2.abs)) = some (true, openGood q loose))
    (b : (wholeF (fun p => stepQ (denQ tabQ) p w) fenceQ M r.prog).map (fun x => ob x.2) = some (H.val w)) : RunEqI r q H ob M loose w := by
  unfold RunEqI
  obtain ⟨x, h1, h2⟩ := Option.map_eq_some_iff.mp a
  rw [h1] at b ⊢
  obtain ⟨k1, k2⟩ := Prod.mk.inj h2
  have k3 : ob x.2 = H.val w := Option.some.inj b
  exact congrArg some (Prod.ext k1 (Prod.ext k2 k3))
theorem run2 (a : ∀ os : OsState, (endF (stepQ (denQ tabQ) r.prog w) M r.prog w os).map (fun s => (looksF r.prog (boot_heap w.params) s.abs, seenQ q loose (importedModules r.prog.main.body) (fun s => xlAt q [] s && recOk r.toRowW.records s) s.abs)) = some (true, openGood q loose))
    (b : ∀ os : OsState, (endF (stepQ (denQ tabQ) r.prog w) M r.prog w os).map ob = some (H.val w)) : RunEq r q H ob M loose w := by
  intro os
  obtain ⟨x, h1, h2⟩ := Option.map_eq_some_iff.mp (a os)
  have b1 := b os
  rw [h1] at b1 ⊢
  obtain ⟨k1, k2⟩ := Prod.mk.inj h2
  have k3 : ob x = H.val w := Option.some.inj b1
  exact congrArg some (Prod.ext k1 (Prod.ext k2 k3))
end
end Pu
end

section
set_option maxHeartbeats 2000000
namespace Pu
open PySem PySem.Spec PyProof.Rows L2

/-! ### a lambda with parameters that captures nothing, as a value -/
theorem cloFrom_nil {cells : List (Str × Addr)} : ∀ {names : List (Str × NameKind)} {acc : List (Str × Addr)}, (∀ y ∈ names, y.2 ≠ .free) → cloFrom cells names acc = acc
  | [], _, _ => rfl
  | (n, k) :: r, acc, h => by
    have e : (k == NameKind.free) = false := by
      have := h _ List.mem_cons_self
      cases k <;> first | rfl | exact absurd rfl this
    unfold cloFrom
    rw [e]
    exact cloFrom_nil fun y hy => h y (List.mem_cons_of_mem _ hy)
section
variable {X : Cx} {pins : List (Addr × Obj)} {σ : St} {H : Hp} {s : Shared}
theorem inv_lam {l : LamD} {cl : Addr} {pm ct : Value} {t' : Nat} (I : Inv X pins σ H s) : Inv X pins σ (upd H s.heap.objs.size (FunO s.heap.objs.size l cl)) { s with heap := s.heap.push (PySem.W.kla_obj "<lambda>" l.nm l.ps l.body l.sc [] pm cl ct), toks := t' } := by
  refine I.laid (a := s.heap.objs.size) (fun b u e => Heap.get?_push_of_some _ e) (Nat.le_refl _) ?_
  have e := Heap.get?_push_size (h := s.heap) (o := PySem.W.kla_obj "<lambda>" l.nm l.ps l.body l.sc [] pm cl ct)
  have e := e rfl
  exact ⟨⟨pm, ct, e⟩, ⟨_, e⟩, fun h1 h2 ⟨p, t, z⟩ st => ⟨p, t, st _ z⟩⟩
theorem lam_newV {T : List (Addr × Str)} {c P : Addr} {l : LamD} {pos : Pos} {E Q : Value → Shared → Prop} (I : Inv X pins σ H s) (nmE : l.nm = X.env.qual ++ "<lambda>") (TB : LamX.TabB X.base X.mg c P) (hcode : X.env.code = .ref c) (hm : (P, l.nm) ∈ T) (hu : ∀ p ∈ T, p.1 = P → p.2 = l.nm) (hT : LamX.Tabs T H)
    (hdef : defaultsOf l.ps X.env = ([], [])) (hfree : ∀ y ∈ l.sc.names, y.2 ≠ .free)
    (h : ∀ (f cl : Addr) (H1 : Hp) (z : Shared), Inv X pins σ (upd H1 f (FunO f l cl)) z → Made T l.nm P H H1 f cl → Q (.ref f) z) : wpAny (model X.prog X.w) X.A (eval (.Lambda l.ps l.body l.sc pos) X.env) Q E s := by
  obtain ⟨tb, hP, ht, ha⟩ := hT _ hm
  have oP : s.heap.get? P = some { cls := .none, data := .fields tb } := I.hok P _ hP
  have hcl : cloFrom X.env.cells l.sc.names [] = [] := cloFrom_nil hfree
  have hco : closureFor l.sc X.env = pure [] := by
    rw [closure_ok fun y hy e => absurd e (hfree y hy), hcl]
  refine PySem.W.kla_eval hdef ?_
  rw [← nmE]
  cases hc : codeAmong pos tb.toList with
  | some cv =>
    obtain ⟨cl, rfl, hcO⟩ := ha pos cv hc
    refine PySem.W.kla_makeFunctionHit (mg := X.mg) hco I.ok.glob (I.mod.glob.keeps I.bk) hcode (TB.code.keeps I.bk) oP ht hc (TB.bm.keeps I.bk) fun ct h' tk hx sz => ?_
    have J : Inv X pins σ H { s with heap := h', toks := tk } := I.kept hx
    exact h _ cl H _ (inv_lam (l := l) (cl := cl) (t' := tk) J) ⟨fun _ _ e _ => e, ⟨tb, hP⟩, fun _ e => e, hT, I.hok.fresh sz, hcO⟩
  | none =>
    refine PySem.W.kla_makeFunction (mg := X.mg) hco I.ok.glob (I.mod.glob.keeps I.bk) hcode (TB.code.keeps I.bk) oP ht hc TB.gP (TB.bm.keeps I.bk) fun cl ct h' tk hx hge hlt hrec htb => ?_
    obtain ⟨cl2, oc, us, t, e1, e2, e3, e4⟩ := hrec
    cases e1
    have nC : H cl = none := I.hok.fresh hge
    have nPC : P ≠ cl := ne_of_none hP nC
    have sz : s.heap.objs.size ≤ h'.objs.size := Nat.le_trans hge (Nat.le_of_lt hlt)
    let H1 : Hp := upd (upd H P (.tbl (tb ++ #[rawInt pos.line, rawInt pos.col, .ref cl]))) cl (LamX.CodeO cl l.nm)
    have k1 : ∀ b o, H b = some o → b ≠ P → H1 b = some o := fun b o e b2 => by
      have b1 : b ≠ cl := ne_of_none e nC
      show upd (upd H P _) cl _ b = _
      rw [upd_ne b1, upd_ne b2]
      exact e
    have k2 : ∀ b, H1 b = none → H b = none := fun b e => by
      have e : upd (upd H P (.tbl (tb ++ #[rawInt pos.line, rawInt pos.col, .ref cl]))) cl (LamX.CodeO cl l.nm) b = none := e
      by_cases b1 : b = cl
      · rw [b1]
        exact nC
      · rw [upd_ne b1] at e
        by_cases b2 : b = P
        · rw [b2, upd_same] at e
          cases e
        · rw [upd_ne b2] at e
          exact e
    have eL : (tb ++ #[rawInt pos.line, rawInt pos.col, .ref cl]).toList = tb.toList ++ [rawInt pos.line, rawInt pos.col, .ref cl] := by simp
    have cl1 : H1 cl = some (LamX.CodeO cl l.nm) := upd_same
    have tabs : LamX.Tabs T H1 := fun p hp => by
      by_cases hb : p.1 = P
      · rw [hu p hp hb, hb]
        refine ⟨tb ++ #[rawInt pos.line, rawInt pos.col, .ref cl], (upd_ne nPC).trans upd_same, by rw [eL]; exact PySem.TriplesOk_snoc _ _ _ _ ht, fun p' cv hcv => ?_⟩
        rw [eL] at hcv
        rcases LamX.among_app _ ht hcv with q | q
        · obtain ⟨c0, q1, q2⟩ := ha p' cv q
          exact ⟨c0, q1, k1 _ _ q2 fun z => by rw [z, hP] at q2; exact LamX.codeO_ne tb (Option.some.inj q2).symm⟩
        · exact ⟨cl, q, cl1⟩
      · obtain ⟨tp, a1, a2, a3⟩ := hT p hp
        refine ⟨tp, ((upd_ne (ne_of_none a1 nC)).trans (upd_ne hb)).trans a1, a2, fun p' cv hcv => ?_⟩
        obtain ⟨c0, q1, q2⟩ := a3 p' cv hcv
        exact ⟨c0, q1, k1 _ _ q2 fun z => by rw [z, hP] at q2; exact LamX.codeO_ne tb (Option.some.inj q2).symm⟩
    have J := LamX.inv_table (q := l.nm) (t' := tk) (more := #[rawInt pos.line, rawInt pos.col, .ref cl]) (h' := h') I hP (fun b o nb e => hx b o nb e) htb hge ⟨oc, us, t, e2, e3, e4⟩
    refine h _ cl H1 _ (inv_lam (l := l) (cl := cl) (t' := tk) J) ⟨k1, ⟨tb, hP⟩, k2, tabs, ?_, cl1⟩
    have n1 : h'.objs.size ≠ cl := Nat.ne_of_gt hlt
    have n2 : h'.objs.size ≠ P := Nat.ne_of_gt (Nat.lt_of_lt_of_le (Heap.lt_size oP) sz)
    show upd (upd H P _) cl _ _ = none
    rw [upd_ne n1, upd_ne n2]
    exact I.hok.fresh sz
end
def mLamV (x : Str) : EM := fun _ p => .ok (.lam x) p
section
variable {X : Cx} {C : Ctx} {W : WX} {gd : Bool} {k : Nat}
theorem pm_lamV {x : Str} {l : LamD} {c P : Addr} {pos : Pos} (w : Wk X C W gd k) (hl : C.lt.lookup x = some l) (nmE : l.nm = X.env.qual ++ "<lambda>") (TB : LamX.TabB X.base X.mg c P) (hcode : X.env.code = .ref c) (hmT : (P, l.nm) ∈ C.T) (hu : ∀ p ∈ C.T, p.1 = P → p.2 = l.nm)
    (hdef : defaultsOf l.ps X.env = ([], [])) (hfree : ∀ y ∈ l.sc.names, y.2 ≠ .free) : PE X (.Lambda l.ps l.body l.sc pos) (rE C W (mLamV x)) := by
  refine ⟨fun pins s σ H Q I ⟨G, env, p0, L, o⟩ => ?_⟩
  refine lam_newV I nmE TB hcode hmT hu L.tab.tabs hdef hfree fun f cl H1 z J M => ?_
  obtain ⟨tp, hP⟩ := M.tbl
  have nP : ∀ b u, H b = some u → (∀ ps, u ≠ .tbl ps) → b ≠ P := fun b u e n z => by
    rw [z, hP] at e
    cases e
    exact n tp rfl
  have fH : H f = none := M.fre _ M.fn
  have nfc : cl ≠ f := ne_of_none M.co M.fn
  have gP : ∀ b o, G b = some o → b ≠ P := fun b o e z => by
    have q := L.nt _ hmT
    rw [← z, e] at q
    cases q
  have k2 : ∀ b o, H1 b = some o → upd H1 f (FunO f l cl) b = some o := fun b o e => by
    rw [upd_ne (ne_of_none e M.fn)]
    exact e
  have gcl : ∀ o, G cl = some o → o = LamX.CodeO cl l.nm := fun o e => by
    have q := M.kee _ _ (L.sub _ _ e) (gP _ _ e)
    rw [M.co] at q
    exact (Option.some.inj q).symm
  have gf : ∀ b o, G b = some o → b ≠ f := fun b o e => ne_of_none (L.sub _ _ e) fH
  have gro : Sub G (upd (upd G cl (LamX.CodeO cl l.nm)) f (FunO f l cl)) := fun b o e => by
    rw [upd_ne (gf b o e)]
    by_cases hb : b = cl
    · rw [hb, upd_same, gcl o (hb ▸ e)]
    · rw [upd_ne hb]
      exact e
  have tab2 : Tb C (upd H1 f (FunO f l cl)) := ⟨M.tab.ext k2, L.tab.sm.elim fun o h => h.elim fun u q => ⟨o, u, k2 _ _ (M.kee _ _ q (nP _ _ q fun _ z => by cases z))⟩, fun f' c' q' Gc e => by
    have q := L.tab.co f' c' q' Gc e
    exact k2 _ _ (M.kee _ _ q (nP _ _ q fun _ z => by unfold LamX.CodeO at z; cases z))⟩
  have x : Ext C G H (upd (upd G cl (LamX.CodeO cl l.nm)) f (FunO f l cl)) (upd H1 f (FunO f l cl)) := by
    refine ⟨fun b o e => ?_, gro, fun b o e => ?_, fun b o e _ n2 => k2 _ _ (M.kee _ _ e (nP _ _ e n2)), fun b e => ?_, tab2⟩
    · by_cases hf : b = f
      · rw [hf, upd_same] at e ⊢
        exact e
      · rw [upd_ne hf] at e ⊢
        by_cases hb : b = cl
        · rw [hb, upd_same] at e
          rw [hb, M.co]
          exact e
        · rw [upd_ne hb] at e
          exact M.kee _ _ (L.sub _ _ e) (gP _ _ e)
    · by_cases hf : b = f
      · exact .inr (.inl (hf ▸ fH))
      · rw [upd_ne hf] at e
        by_cases hb : b = cl
        · subst hb
          rw [upd_same] at e
          exact .inr (.inr ⟨_, (Option.some.inj e).symm⟩)
        · rw [upd_ne hb] at e
          exact .inl e
    · by_cases hf : b = f
      · rw [hf, upd_same] at e
        cases e
      · rw [upd_ne hf] at e
        exact M.fre _ e
  have y : PenAt C (upd (upd G cl (LamX.CodeO cl l.nm)) f (FunO f l cl)) (upd H1 f (FunO f l cl)) p0 := fun b e => by
    obtain ⟨q1, q2, q3⟩ := L.pen b e
    have q4 := M.kee _ _ q2 (nP _ _ q2 fun _ z => by cases z)
    have nf : b ≠ f := ne_of_none q2 fH
    have nc : b ≠ cl := fun z => by
      rw [z, M.co] at q4
      cases q4
    refine ⟨?_, k2 _ _ q4, gro _ _ q3⟩
    rw [upd_ne nf, upd_ne nc]
    exact q1
  refine ⟨.ref f, _, J, rfl, o (.ref f) _ _ x y (.lam hl upd_same ?_)⟩
  rw [upd_ne nfc, upd_same]
end
/-! ### its call -/
structure FnL (C : Ctx) (P : Program) (w : World) (base : Heap) (gd : Bool) (x : Str) (k n : Nat) (m : FM) : Prop where
  ex : ∃ l, C.lt.lookup x = some l ∧ ∀ (f cl : Addr) (A : Around) (outer : List PySem.Env) (s : Shared) (H : Hp) (us : List Value) (vs : List V) (Q : VK) (E : XK), Room k A → (gd = true → A.guards = some []) → Env0 P w C.K C.mg base A outer s H → H f = some (FunO f l cl) → H cl = some (LamX.CodeO cl l.nm) → Vals vs us → spM C m n vs H Q E →
    codeAny (model P w) A (.call (.ref f) ⟨us, []⟩) (CR (L2.CX P w) outer P w H s Q E) s
def mDefE (n : Nat) (m : EM) : FM := fun ds p => m (env0 n ds) p
theorem fnl_of {C : Ctx} {P : Program} {w : World} {base : Heap} {gd : Bool} {x : Str} {l : LamD} {k : Nat} {N ps : List Str} {mb : EM} (hl : C.lt.lookup x = some l) (S : FnScope N ps l.sc) (hx : C.ex = none)
    (hbind : ∀ (pm cd ct : Value) (us : List Value), us.length = ps.length → bindArgs (PySem.W.kla_fn "<lambda>" l.nm l.ps l.body l.sc [] pm cd ct) ⟨us, []⟩ = pure (ps.zip us))
    (hb : ∀ (f : Addr) (cd : Value) (A : Around) (outer : List PySem.Env) (s : Shared) (H : Hp) (E : XK), Wk (cxOf (L2.CX P w) P w C.K C.mg base N l.nm l.sc f cd A outer s H E) C (fun cls d _ H => E cls d H) gd k → PE (cxOf (L2.CX P w) P w C.K C.mg base N l.nm l.sc f cd A outer s H E) l.body (rE C (fun cls d _ H => E cls d H) mb)) :
    FnL C P w base gd x (k + 1) ps.length (mDefE N.length mb) := by
  refine ⟨l, hl, fun f cl A outer s H us vs Q E hr hg e0 hf hc r hsp => ?_⟩
  obtain ⟨G, ds, p, hlen, hs, ht, hn, hy, hr', ho⟩ := hsp
  obtain ⟨⟨pm, ct, of⟩, _, _⟩ := e0.hok f _ hf
  obtain ⟨⟨oc, fs, t, k1, k2, k3⟩, _, _⟩ := e0.hok cl _ hc
  have lim : s.heap.NoLimit := e0.mod.nolimit.keeps fun b o e => (e0.bs b o e).1
  have hkind : ∀ y ∈ ps.zip us, l.sc.names.lookup y.1 = some .local ∨ (l.sc.names.lookup y.1 = some .cell ∧ ((cellsFrom (s.heap.objs.size + 1) l.sc.names []).lookup y.1).isSome = true) := fun ⟨n, v⟩ hy => by
    rcases S.par n (List.of_mem_zip hy).1 with q | q
    · exact .inl q
    · exact .inr ⟨q, PySem.W.cellsFrom_some _ _ _ (.inl q)⟩
  refine PySem.W.kla_callFunE hr.depth of rfl S.co S.gen rfl ⟨cl, oc, fs, t, rfl, k1, k2, k3⟩ ?_
  rw [hbind _ _ _ _ (by rw [← r.length, hlen])]
  refine wpAny_pure (wpAny_newFunctionEnv_cells S.kind hkind fun env he s1 z => ?_)
  subst he
  refine ⟨lim.keeps z.toInCall.keep, PySem.W.kla_codeExpr ?_⟩
  have I : Inv (cxOf (L2.CX P w) P w C.K C.mg base N l.nm l.sc f (.ref cl) A outer s H E) [] (L2.start N vs) H s1 := inv_start S hr.hd e0 hlen r z
  refine wpAny_mono ((hb f (.ref cl) A outer s H E ⟨rfl, rfl, hr.deeper _, hg, takes_of rfl rfl rfl rfl, hx⟩).run [] s1 (L2.start N vs) H Q I ⟨G, env0 N.length ds, p, start_ok hs ht hn hy hr', ?_⟩) (fun v z q => ?_) fun _ _ q => q
  · exact ho.imp (fun d q z => z) fun er q z => z
  · obtain ⟨w', H', J', rv, q⟩ := q
    exact ⟨w', H', J'.os, J'.bare, J'.base, J'.hok, rv, q⟩
def mCallW (i : Nat) (fs ls : List (Str × FM)) (a : AM) : EM := fun env p => match env[i]? with
  | some (.val (.fn x)) => match fs.lookup x with
    | some m => mFn m a env p
    | none => .bad
  | some (.val (.lam x)) => match ls.lookup x with
    | some m => mFn m a env p
    | none => .bad
  | _ => .bad
inductive FnLs (C : Ctx) (P : Program) (w : World) (base : Heap) (gd : Bool) (k n : Nat) : List (Str × FM) → Prop where
  | nil : FnLs C P w base gd k n []
  | cons {x : Str} {j : Nat} {m : FM} {fs : List (Str × FM)} (h : FnL C P w base gd x j n m) (hj : j ≤ k) (t : FnLs C P w base gd k n fs) : FnLs C P w base gd k n ((x, m) :: fs)
theorem FnLs.look {C : Ctx} {P : Program} {w : World} {base : Heap} {gd : Bool} {k n : Nat} {x : Str} {m : FM} : ∀ {fs : List (Str × FM)}, FnLs C P w base gd k n fs → fs.lookup x = some m → ∃ j, j ≤ k ∧ FnL C P w base gd x j n m
  | _, .nil, e => by cases e
  | _, .cons h hj t, e => by
    rw [look_put] at e
    split at e
    · rename_i c
      cases e
      subst c
      exact ⟨_, hj, h⟩
    · exact FnLs.look t e
theorem fnAt_lam {X : Cx} {pins : List (Addr × Obj)} {σ : St} {H : Hp} {s : Shared} {f cl : Addr} {l : LamD} (I : Inv X pins σ H s) (e : H f = some (FunO f l cl)) : PySem.W.FnAt f s.heap := by
  obtain ⟨⟨pm, ct, of⟩, _, _⟩ := I.hok f _ e
  exact ⟨_, _, _, _, of⟩
section
variable {X : Cx} {C : Ctx} {W : WX} {e : Expr} {es : List Expr} {a : AM} {pos p : Pos} {x : Str} {gd gd' : Bool} {k j n : Nat} {m : FM}
theorem pm_callW (i : Nat) {fs ls : List (Str × FM)} (F : Fns C X.prog X.w X.base gd k n fs) (FL : FnLs C X.prog X.w X.base gd k n ls) (w : Wk X C W gd' j) (hk : k ≤ j) (hgd : gd = true → gd' = true) (ha : PA X (e :: es) (rA C W a)) (hl : ALen a n) (hN : X.N[i]? = some x := by rfl) (hv : Vis X.env.scope x := by first | exact Or.inl rfl | exact Or.inr (Or.inl rfl) | exact Or.inr (Or.inr rfl))
    (hdb : (x == ("__debug__" : Str)) = false := by decide) (hcd : (x == ("__classdict__" : Str)) = false := by decide)
    (he : starEach (e :: es) X.env = (false, eval e X.env) :: starEach es X.env := by rfl) (hpl : (backTo pos (starEach es X.env)).any (·.1) = false := by rfl) : PE X (.Call (.Name x p) (e :: es) [] pos) (rE C W (mCallW i fs ls a)) := by
  refine ⟨fun pins s σ H Q I ⟨G, env, p0, L, o⟩ => ?_⟩
  cases hy : env[i]? with
  | none =>
    unfold mCallW at o
    rw [hy] at o
    exact o.elim
  | some sl =>
    by_cases hfn : ∃ y, sl = .val (.lam y)
    · obtain ⟨y, rfl⟩ := hfn
      unfold mCallW at o
      rw [hy] at o
      have o : OutP (match ls.lookup y with | some m => mFn m a env p0 | none => .bad) _ _ := o
      cases hm : ls.lookup y with
      | none =>
        rw [hm] at o
        exact o.elim
      | some m =>
        rw [hm] at o
        obtain ⟨j1, hj1, FL⟩ := FL.look hm
        obtain ⟨l, hlt, FL⟩ := FL.ex
        obtain ⟨v, hs, rep⟩ := L.val hy
        cases rep with
        | @lam f c' _ l' h1 g1 g2 =>
          rw [hlt] at h1
          cases h1
          have hf : H f = some (FunO f l c') := L.sub _ _ g1
          have hc : H c' = some (LamX.CodeO c' l.nm) := L.sub _ _ g2
          rw [w.K, w.mg] at FL
          refine wpAny_Call_Name_kw (thn ((pe_var (pos := p) hN hv hdb hcd).run pins s σ H (fun v H1 => v = .ref f ∧ H1 = H) I ⟨.ref f, hs, rfl, rfl⟩) fun u s1 ⟨v, H1, I1, r1, q1, q2⟩ => ?_)
          subst q1 q2
          cases r1
          have o1 : OutP (mFn m a env p0) _ _ := o
          have o2 := OutP.bind o1
          cases ea : a env p0 with
          | bad =>
            rw [ea] at o2
            exact o2.elim
          | err er q =>
            have z : rA C W a σ H1 (fun _ _ => False) := ⟨G, env, p0, L, by rw [ea] at o2 ⊢; exact o2⟩
            exact PySem.W.callWith_F (first := []) (fnAt_lam I1 hf) (thn (ha.run pos pins s1 σ _ _ I1 z) fun us s1 ⟨vs, H1, I1, r, q⟩ => q.elim) he hpl
          | ok ds q =>
            have lds := hl _ _ _ _ ea
            rw [ea] at o2
            have z : rA C W a σ H1 (fun vs H2 => H2 f = some (FunO f l c') ∧ H2 c' = some (LamX.CodeO c' l.nm) ∧ spM C m n vs H2 Q (fun cls d H' => W cls d σ H')) := ⟨G, env, p0, L, by
              rw [ea]
              intro vs G1 H2 x1 y1 r1
              refine ⟨x1.sub _ _ (x1.gro _ _ g1), x1.sub _ _ (x1.gro _ _ g2), G1, ds, q, by rw [r1.length]; exact lds, x1.sub, x1.tab, x1.nt L.tab L.nt, y1, r1, OutP.imp o2 (fun d q2 z2 v G2 H2 x2 y2 r2 => z2 v G2 H2 (x1.trans x2) y2 r2) fun er q2 z2 cls dd G2 H2 x2 y2 r2 => z2 cls dd G2 H2 (x1.trans x2) y2 r2⟩⟩
            refine PySem.W.callWith_F (first := []) (fnAt_lam I1 hf) (thn (ha.run pos pins s1 σ _ _ I1 z) fun us s2 ⟨vs, H2, I2, r, h1, h2, q⟩ => ⟨fnAt_lam I2 h1, ?_⟩) he hpl
            show wpAny _ _ (call (.ref f) us) _ _ _
            refine wpAny_call (codeAny_mono (FL f c' X.A X.stack s2 H2 us vs Q _ (w.room.mono (Nat.le_trans hj1 hk)) (fun c => w.gd (hgd c)) I2.env0 h1 h2 r q) fun res s' done => ?_)
            cases res with
            | error er => exact w.tk er s' (XE.of_call I2 (fun cls d H2 h => h) done)
            | ok fl => cases fl with
              | ret u => exact I2.after done
              | next => exact done.elim
              | brk => exact done.elim
              | cont => exact done.elim
    · have o' : OutP (mCallV i fs a env p0) (fun d q => ∀ v G' H', Ext C G H G' H' → PenAt C G' H' q → Rep C G' v d → Q v H') (ErrP C W G H σ) := by
        unfold mCallW at o
        unfold mCallV
        rw [hy] at o ⊢
        cases sl with
        | val d =>
          cases d with
          | fn y => exact o
          | lam y => exact absurd ⟨y, rfl⟩ hfn
          | _ => exact o
        | _ => exact o
      exact (pm_callV (pos := pos) (p := p) i F w hk hgd ha hl hN hv hdb hcd he hpl).run pins s σ H Q I ⟨G, env, p0, L, o'⟩
end
end Pu
end

section
set_option maxHeartbeats 2000000
namespace Pu
open PySem PySem.Spec PyProof.Rows L2
/-! ### the way to a lambda in a def's words -/
def s0x : Stmt := .Pass ⟨0, 0, 0, 0⟩
def e0x : Expr := .Name "" ⟨0, 0, 0, 0⟩
def sAt (l : List Stmt) (i : Nat) : Stmt := l.getD i s0x
def sBody : Stmt → List Stmt
  | .For _ _ b _ _ => b
  | .If _ b _ _ => b
  | .While _ b _ _ => b
  | _ => []
def sElse : Stmt → List Stmt
  | .If _ _ b _ => b
  | _ => []
def sIter : Stmt → Expr
  | .For _ it _ _ _ => it
  | _ => e0x
def sExp : Stmt → Expr
  | .Expr v _ => v
  | .Assign _ v _ => v
  | .Return (some v) _ => v
  | _ => e0x
def eElt (e : Expr) (i : Nat) : Expr := match e with
  | .Tuple es _ _ => es.getD i e0x
  | .List es _ => es.getD i e0x
  | .Call _ es _ _ => es.getD i e0x
  | _ => e0x
def eLam (nm : Str) : Expr → LamD
  | .Lambda ps b sc _ => ⟨nm, ps, b, sc⟩
  | e => ⟨nm, ⟨[], [], none, [], [], none, []⟩, e, ⟨.function, [], false, false, []⟩⟩
end Pu
end

section
set_option maxHeartbeats 0
namespace Pu
namespace Lw
open PySem PySem.Spec PyProof.Rows L2
def top (i : Nat) : Stmt := PySem.Challenge.pw_flowwebs_k73_whole_firing.main.body.getD i (.Pass ⟨0, 0, 0, 0⟩)
abbrev s0 : Stmt := top 19
abbrev s1 : Stmt := top 21
abbrev s2 : Stmt := top 22
abbrev s3 : Stmt := top 23
abbrev s4 : Stmt := top 24
abbrev s5 : Stmt := top 28
abbrev s6 : Stmt := top 30
abbrev s7 : Stmt := top 33
abbrev s8 : Stmt := top 34
abbrev s9 : Stmt := top 35
abbrev s10 : Stmt := top 36
abbrev s11 : Stmt := top 37
abbrev s12 : Stmt := top 38
abbrev s13 : Stmt := top 40
abbrev s14 : Stmt := top 41
abbrev s15 : Stmt := top 42
abbrev s16 : Stmt := top 43
abbrev s17 : Stmt := top 44
abbrev s18 : Stmt := top 45
abbrev s19 : Stmt := top 46
abbrev s20 : Stmt := top 47
abbrev s21 : Stmt := top 48
abbrev s22 : Stmt := top 49
abbrev s23 : Stmt := top 50
abbrev s24 : Stmt := top 51
abbrev s25 : Stmt := top 52
abbrev s26 : Stmt := top 53
abbrev s27 : Stmt := top 54
abbrev s28 : Stmt := top 55
abbrev s29 : Stmt := top 56
abbrev s30 : Stmt := top 57
abbrev s31 : Stmt := top 58
abbrev s32 : Stmt := top 59
abbrev s33 : Stmt := inClass (top 2) 0
abbrev s34 : Stmt := inClass (top 3) 0
abbrev s35 : Stmt := inClass (top 4) 0
abbrev s36 : Stmt := inClass (top 5) 0
abbrev s37 : Stmt := inClass (top 6) 0
abbrev s38 : Stmt := inClass (top 7) 0
abbrev s39 : Stmt := inClass (top 8) 0
abbrev s40 : Stmt := inClass (top 9) 0
abbrev s41 : Stmt := inClass (top 10) 0
abbrev s42 : Stmt := inClass (top 11) 0
abbrev s43 : Stmt := inClass (top 12) 0
abbrev s44 : Stmt := inClass (top 13) 0
abbrev s45 : Stmt := inClass (top 14) 0
abbrev s46 : Stmt := inClass (top 15) 0
abbrev s47 : Stmt := inClass (top 29) 0
abbrev s48 : Stmt := inClass (top 29) 1
abbrev s49 : Stmt := inClass (top 29) 2
def d0 : He.DefD := ⟨("is_integer", none), "is_integer", "is_integer", defArgs s0, defBody s0, defScope s0, [], []⟩
def d1 : He.DefD := ⟨("as_tuples", none), "as_tuples", "as_tuples", defArgs s1, defBody s1, defScope s1, [], []⟩
def d2 : He.DefD := ⟨("is_list", none), "is_list", "is_list", defArgs s2, defBody s2, defScope s2, [], []⟩
def d3 : He.DefD := ⟨("is_index", none), "is_index", "is_index", defArgs s3, defBody s3, defScope s3, [], []⟩
def d4 : He.DefD := ⟨("is_indexes", none), "is_indexes", "is_indexes", defArgs s4, defBody s4, defScope s4, [], []⟩
def d5 : He.DefD := ⟨("is_tie", none), "is_tie", "is_tie", defArgs s5, defBody s5, defScope s5, [], []⟩
def d6 : He.DefD := ⟨("parts_by", none), "parts_by", "parts_by", defArgs s6, defBody s6, defScope s6, [], []⟩
def d7 : He.DefD := ⟨("need_chip_web", none), "need_chip_web", "need_chip_web", defArgs s7, defBody s7, defScope s7, [], []⟩
def d8 : He.DefD := ⟨("need_chips", none), "need_chips", "need_chips", defArgs s8, defBody s8, defScope s8, [], []⟩
def d9 : He.DefD := ⟨("fired_by", none), "fired_by", "fired_by", defArgs s9, defBody s9, defScope s9, [], []⟩
def d10 : He.DefD := ⟨("fired", none), "fired", "fired", defArgs s10, defBody s10, defScope s10, [], []⟩
def d11 : He.DefD := ⟨("degrees_in", none), "degrees_in", "degrees_in", defArgs s11, defBody s11, defScope s11, [], []⟩
def d12 : He.DefD := ⟨("canonical", none), "canonical", "canonical", defArgs s12, defBody s12, defScope s12, [], []⟩
def d13 : He.DefD := ⟨("_law_pen", none), "_law_pen", "_law_pen", defArgs s13, defBody s13, defScope s13, [], []⟩
def d14 : He.DefD := ⟨("_law_draw", none), "_law_draw", "_law_draw", defArgs s14, defBody s14, defScope s14, [], []⟩
def d15 : He.DefD := ⟨("_law_pick", none), "_law_pick", "_law_pick", defArgs s15, defBody s15, defScope s15, [], []⟩
def d16 : He.DefD := ⟨("_law_shuffled", none), "_law_shuffled", "_law_shuffled", defArgs s16, defBody s16, defScope s16, [], []⟩
def d17 : He.DefD := ⟨("_law_is", none), "_law_is", "_law_is", defArgs s17, defBody s17, defScope s17, [], []⟩
def d18 : He.DefD := ⟨("_law_odd", none), "_law_odd", "_law_odd", defArgs s18, defBody s18, defScope s18, [], []⟩
def d19 : He.DefD := ⟨("_law_bent_row", none), "_law_bent_row", "_law_bent_row", defArgs s19, defBody s19, defScope s19, [], []⟩
def d20 : He.DefD := ⟨("_law_fault", none), "_law_fault", "_law_fault", defArgs s20, defBody s20, defScope s20, [], []⟩
def d21 : He.DefD := ⟨("_law_kinds", none), "_law_kinds", "_law_kinds", defArgs s21, defBody s21, defScope s21, [], []⟩
def d22 : He.DefD := ⟨("_law_more_kinds", none), "_law_more_kinds", "_law_more_kinds", defArgs s22, defBody s22, defScope s22, [], []⟩
def d23 : He.DefD := ⟨("_law_tuples", none), "_law_tuples", "_law_tuples", defArgs s23, defBody s23, defScope s23, [], []⟩
def d24 : He.DefD := ⟨("_law_drawn_ties", none), "_law_drawn_ties", "_law_drawn_ties", defArgs s24, defBody s24, defScope s24, [], []⟩
def d25 : He.DefD := ⟨("_law_joined_web", none), "_law_joined_web", "_law_joined_web", defArgs s25, defBody s25, defScope s25, [], []⟩
def d26 : He.DefD := ⟨("_law_either", none), "_law_either", "_law_either", defArgs s26, defBody s26, defScope s26, [], []⟩
def d27 : He.DefD := ⟨("_law_chip_web", none), "_law_chip_web", "_law_chip_web", defArgs s27, defBody s27, defScope s27, [], []⟩
def d28 : He.DefD := ⟨("_law_fire", none), "_law_fire", "_law_fire", defArgs s28, defBody s28, defScope s28, [], []⟩
def d29 : He.DefD := ⟨("_law_chips", none), "_law_chips", "_law_chips", defArgs s29, defBody s29, defScope s29, [], []⟩
def d30 : He.DefD := ⟨("_law_right", none), "_law_right", "_law_right", defArgs s30, defBody s30, defScope s30, [], []⟩
def d31 : He.DefD := ⟨("_law_refused", none), "_law_refused", "_law_refused", defArgs s31, defBody s31, defScope s31, [], []⟩
def d32 : He.DefD := ⟨("law", none), "law", "law", defArgs s32, defBody s32, defScope s32, [], []⟩
def d33 : He.DefD := ⟨("BadNumber", some "__init__"), "__init__", "BadNumber.__init__", defArgs s33, defBody s33, defScope s33, [], []⟩
def d34 : He.DefD := ⟨("BadRow", some "__init__"), "__init__", "BadRow.__init__", defArgs s34, defBody s34, defScope s34, [], []⟩
def d35 : He.DefD := ⟨("BadTable", some "__init__"), "__init__", "BadTable.__init__", defArgs s35, defBody s35, defScope s35, [], []⟩
def d36 : He.DefD := ⟨("BadWeb", some "__init__"), "__init__", "BadWeb.__init__", defArgs s36, defBody s36, defScope s36, [], []⟩
def d37 : He.DefD := ⟨("BadLot", some "__init__"), "__init__", "BadLot.__init__", defArgs s37, defBody s37, defScope s37, [], []⟩
def d38 : He.DefD := ⟨("BadName", some "__init__"), "__init__", "BadName.__init__", defArgs s38, defBody s38, defScope s38, [], []⟩
def d39 : He.DefD := ⟨("BadText", some "__init__"), "__init__", "BadText.__init__", defArgs s39, defBody s39, defScope s39, [], []⟩
def d40 : He.DefD := ⟨("NoPlace", some "__init__"), "__init__", "NoPlace.__init__", defArgs s40, defBody s40, defScope s40, [], []⟩
def d41 : He.DefD := ⟨("NoName", some "__init__"), "__init__", "NoName.__init__", defArgs s41, defBody s41, defScope s41, [], []⟩
def d42 : He.DefD := ⟨("TakenName", some "__init__"), "__init__", "TakenName.__init__", defArgs s42, defBody s42, defScope s42, [], []⟩
def d43 : He.DefD := ⟨("Unlike", some "__init__"), "__init__", "Unlike.__init__", defArgs s43, defBody s43, defScope s43, [], []⟩
def d44 : He.DefD := ⟨("NotThere", some "__init__"), "__init__", "NotThere.__init__", defArgs s44, defBody s44, defScope s44, [], []⟩
def d45 : He.DefD := ⟨("TooMany", some "__init__"), "__init__", "TooMany.__init__", defArgs s45, defBody s45, defScope s45, [], []⟩
def d46 : He.DefD := ⟨("NotKept", some "__init__"), "__init__", "NotKept.__init__", defArgs s46, defBody s46, defScope s46, [], []⟩
def d47 : He.DefD := ⟨("Web", some "__init__"), "__init__", "Web.__init__", defArgs s47, defBody s47, defScope s47, [], []⟩
def d48 : He.DefD := ⟨("Web", some "__eq__"), "__eq__", "Web.__eq__", defArgs s48, defBody s48, defScope s48, [], []⟩
def d49 : He.DefD := ⟨("Web", some "__len__"), "__len__", "Web.__len__", defArgs s49, defBody s49, defScope s49, [], []⟩
def fn : List He.DefD := [d0, d1, d2, d3, d4, d5, d6, d7, d8, d9, d10, d11, d12, d13, d14, d15, d16, d17, d18, d19, d20, d21, d22, d23, d24, d25, d26, d27, d28, d29, d30, d31, d32, d33, d34, d35, d36, d37, d38, d39, d40, d41, d42, d43, d44, d45, d46, d47, d48, d49]
def fa : List He.Fa := [.glo "is_integer", .glo "as_tuples", .glo "is_list", .glo "is_index", .glo "is_indexes", .glo "is_tie", .glo "parts_by", .glo "need_chip_web", .glo "need_chips", .glo "fired_by", .glo "fired", .glo "degrees_in", .glo "canonical", .glo "_law_pen", .glo "_law_draw", .glo "_law_pick", .glo "_law_shuffled", .glo "_law_is", .glo "_law_odd", .glo "_law_bent_row", .glo "_law_fault", .glo "_law_kinds", .glo "_law_more_kinds", .glo "_law_tuples", .glo "_law_drawn_ties", .glo "_law_joined_web", .glo "_law_either", .glo "_law_chip_web", .glo "_law_fire", .glo "_law_chips", .glo "_law_right", .glo "_law_refused", .glo "law", .glo "WebError", .glo "BadNumber", .glo "BadRow", .glo "BadTable", .glo "BadWeb", .glo "BadLot", .glo "BadName", .glo "BadText", .glo "NoPlace", .glo "NoName", .glo "TakenName", .glo "Unlike", .glo "NotThere", .glo "TooMany", .glo "NotKept", .glo "NothingToUndo", .glo "NothingToRedo", .glo "Web", .int "MOST_NODES" 16, .int "MOST_TIES" 12, .int "MOST_CHIP_NODES" 8, .exc "NothingToUndo", .exc "NothingToRedo", .free "ValueError", .free "all", .free "bool", .free "int", .free "isinstance", .free "len", .free "list", .free "max", .free "min", .free "range", .free "repr", .free "str", .free "sum", .free "tuple", .free "zip"]
def exL : List Str := ["BadNumber", "BadRow", "BadTable", "BadWeb", "BadLot", "BadName", "BadText", "NoPlace", "NoName", "TakenName", "Unlike", "NotThere", "TooMany", "NotKept", "NothingToUndo", "NothingToRedo"]
def objL : List Str := ["Web"]
def clL : List Str := ["WebError", "BadNumber", "BadRow", "BadTable", "BadWeb", "BadLot", "BadName", "BadText", "NoPlace", "NoName", "TakenName", "Unlike", "NotThere", "TooMany", "NotKept", "NothingToUndo", "NothingToRedo", "Web"]
def subB (c d : Str) : Bool := c = d || (d = "WebError" && exL.contains c)
def isTB (c : Str) (t : String) : Bool := t = "ValueError" && (c = "WebError" || exL.contains c)
def tyL : List String := ["ValueError", "int", "bool", "str", "list", "tuple"]
abbrev ask : Ask := askT clL tyL subB isTB
def exDs : List (Str × List Str) := [("BadNumber", ["what", "number"]), ("BadRow", ["what", "row"]), ("BadTable", ["what"]), ("BadWeb", ["what"]), ("BadLot", ["what", "lot"]), ("BadName", ["name"]), ("BadText", ["line", "word"]), ("NoPlace", ["what", "index"]), ("NoName", ["name"]), ("TakenName", ["name"]), ("Unlike", ["what"]), ("NotThere", ["paper"]), ("TooMany", ["what", "many", "limit"]), ("NotKept", ["promise", "witness"])]
def objF : List (Str × List Str) := [("Web", ["many", "ties"])]
def fl_many : List Str := ["Web"]
def fl_ties : List Str := ["Web"]
def mkL : List Str := ["Web"]
def eqL : List Str := ["Web"]
def lenL : List Str := ["Web"]
def lam_0 : LamD := eLam "_law_refused.<locals>.<lambda>" (eElt (sIter (sAt (defBody s31) 1)) 1)
def ltL : List (Str × LamD) := [("_law_refused#0", lam_0)]
theorem lt_0 {C : Ctx} (e : C.lt = ltL) : C.lt.lookup ("_law_refused#0" : Str) = some lam_0 := by
  rw [e]
  rfl
def tfL : List (He.Defn × Str) := [(("_law_refused", none), "_law_refused.<locals>.<lambda>"), (("_law_right", none), "_law_right.<locals>.<lambda>")]
theorem mem__law_refused : ((("_law_refused", none), "_law_refused.<locals>.<lambda>") : He.Defn × Str) ∈ tfL := by decide +kernel
theorem mem__law_right : ((("_law_right", none), "_law_right.<locals>.<lambda>") : He.Defn × Str) ∈ tfL := by decide +kernel
structure TTl (C : Ctx) (base : Heap) : Prop extends TT tfL C base where
  lt : C.lt = ltL
theorem TTl.pen {C : Ctx} {base : Heap} (h : TTl C base) (a l : Addr) : TTl (C.withPen a l) base := ⟨h.toTT.pen a l, h.lt⟩
def tfD : List He.Defn := [("_law_refused", none), ("_law_right", none)]
def impB (K : PySem.W.Frag) : Bool := true
def exO (K : PySem.W.Frag) : Bool := (objF.all fun p => clsB K (He.ga K p.1) && p.2.all fun f => He.eqO (PySem.W.findIn K (.ref (He.ga K p.1)) f) (some none)) && ((mkL.all fun c => mkB K (He.ga K c)) && ((eqL.all fun c => metB K (He.ga K c) "__eq__" && neB K (He.ga K c)) && ((lenL.all fun c => metB K (He.ga K c) "__len__") && (ttB tfL K && impB K))))
def exF : List Str := ["index", "limit", "line", "lot", "many", "name", "number", "paper", "promise", "row", "what", "witness", "word"]
def ex (K : PySem.W.Frag) : Bool := (exDs.all fun p => exB K p.1 p.2) && ((exL.all fun c => exIsB K (He.ga K c)) && ((exL.all fun c => exF.all fun f => He.eqO (PySem.W.findIn K (.ref (He.ga K c)) f) (some none)) && ((exL.all fun c => decide (PySem.W.exmOne K (.ref (He.ga K c)) (.ref (He.ga K "WebError")) = some true)) && (askB K clL tyL subB isTB && (decide (K.lookup sysModules = none) && exO K)))))
def as0 : List Addr := [3, 6, 4, 24, 44, 63, 82, 101, 120, 139, 158, 177, 196, 215, 234, 253, 272, 291, 303, 315, 324, 329, 336, 343, 348]
def as1 : List Addr := [353, 382, 391, 398, 405, 412, 419, 426, 431, 438, 445, 452, 459, 464, 471, 478, 485, 492, 499, 504, 511, 516, 523, 528, 535]
def as2 : List Addr := [540, 545, 550, 557, 0, 23, 43, 62, 81, 100, 119, 138, 157, 176, 195, 214, 233, 252, 271, 290, 302, 314, 323, 328, 335]
def as3 : List Addr := [342, 347, 352, 381, 390, 397, 404, 411, 418, 425, 430, 437, 444, 451, 458, 463, 470, 477, 484, 491, 498, 503, 510, 515, 522]
def as4 : List Addr := [527, 534, 539, 544, 549, 556, 22, 25, 41, 42, 60, 61, 79, 80, 98, 99, 117, 118, 136, 137, 155, 156, 174, 175, 193]
def as5 : List Addr := [194, 212, 213, 231, 232, 250, 251, 269, 270, 288, 289, 301, 313, 318, 319, 320, 321, 322, 325, 326, 327, 330, 331, 332, 333]
def as6 : List Addr := [334, 337, 338, 339, 340, 341, 344, 345, 346, 349, 350, 351, 365, 372, 379, 380, 383, 384, 387, 388, 389, 392, 393, 394, 395]
def as7 : List Addr := [396, 399, 400, 401, 402, 403, 406, 407, 408, 409, 410, 413, 414, 415, 416, 417, 420, 421, 422, 423, 424, 427, 428, 429, 432]
def as8 : List Addr := [433, 434, 435, 436, 439, 440, 441, 442, 443, 446, 447, 448, 449, 450, 453, 454, 455, 456, 457, 460, 461, 462, 465, 466, 467]
def as9 : List Addr := [468, 469, 472, 473, 474, 475, 476, 479, 480, 481, 482, 483, 486, 487, 488, 489, 490, 493, 494, 495, 496, 497, 500, 501, 502]
def as10 : List Addr := [505, 506, 507, 508, 509, 512, 513, 514, 517, 518, 519, 520, 521, 524, 525, 526, 529, 530, 531, 532, 533, 536, 537, 538, 541]
def as11 : List Addr := [542, 543, 546, 547, 548, 551, 552, 553, 554, 555, 40, 59, 78, 97, 116, 135, 154, 173, 192, 211, 230, 249, 268, 287, 364]
def as12 : List Addr := [371, 378, 35, 36, 37, 38, 39, 54, 55, 56, 57, 58, 73, 74, 75, 76, 77, 92, 93, 94, 95, 96, 111, 112, 113]
def as13 : List Addr := [114, 115, 130, 131, 132, 133, 134, 149, 150, 151, 152, 153, 168, 169, 170, 171, 172, 187, 188, 189, 190, 191, 206, 207, 208]
def as14 : List Addr := [209, 210, 225, 226, 227, 228, 229, 244, 245, 246, 247, 248, 263, 264, 265, 266, 267, 282, 283, 284, 285, 286, 361, 362, 363]
def as15 : List Addr := [366, 367, 368, 369, 370, 373, 374, 375, 376, 377]
def asL : List Addr := as0 ++ (as1 ++ (as2 ++ (as3 ++ (as4 ++ (as5 ++ (as6 ++ (as7 ++ (as8 ++ (as9 ++ (as10 ++ (as11 ++ (as12 ++ (as13 ++ (as14 ++ (as15)))))))))))))))
abbrev R : PySem.W.OpenRow := PySem.W.OpenLaw.row PySem.Challenge.rw_flowwebs_k73_whole_firing
abbrev hk : PySem.W.Hook := hookM (hookL asL fa fn tfD ex)
def ob (s : PySem.W.SharedT) : He.AlX × Bool := (obsL asL fa fn tfD ex (HandSHeadRun.getT s), modsB (HandSHeadRun.getT s))
theorem ob_eq (s : PySem.W.SharedT) : ob s = hk.obs s.abs := by
  have e : HandSHeadRun.getT s = s.abs.heap.get? := funext (HandSHeadRun.getT_eq s)
  unfold ob
  rw [e]
  rfl
abbrev FX (K : PySem.W.Frag) (mg : Str → Option Value) : Prop := Fx fa fn ex K mg
def nm0 : List Str := ["is_integer", "as_tuples", "is_list", "is_index", "is_indexes", "is_tie", "parts_by", "need_chip_web", "need_chips", "fired_by", "fired", "degrees_in", "canonical", "_law_pen", "_law_draw", "_law_pick", "_law_shuffled", "_law_is", "_law_odd", "_law_bent_row", "_law_fault", "_law_kinds", "_law_more_kinds", "_law_tuples", "_law_drawn_ties"]
def nm1 : List Str := ["_law_joined_web", "_law_either", "_law_chip_web", "_law_fire", "_law_chips", "_law_right", "_law_refused", "WebError", "BadNumber", "BadRow", "BadTable", "BadWeb", "BadLot", "BadName", "BadText", "NoPlace", "NoName", "TakenName", "Unlike", "NotThere", "TooMany", "NotKept", "NothingToUndo", "NothingToRedo", "Web"]
def nm2 : List Str := ["MOST_NODES", "MOST_TIES", "MOST_CHIP_NODES"]
def nms : List Str := nm0 ++ nm1 ++ nm2
section
variable {C : Ctx} {P : Program} {w : World} {base : Heap}
theorem ex1 (h : FX C.K C.mg) : (∀ p ∈ exDs, exB C.K p.1 p.2 = true) ∧ (∀ c ∈ exL, exIsB C.K (He.ga C.K c) = true) ∧ (∀ c ∈ exL, ∀ f ∈ exF, PySem.W.findIn C.K (.ref (He.ga C.K c)) f = some none) ∧ (∀ c ∈ exL, PySem.W.exmOne C.K (.ref (He.ga C.K c)) (.ref (He.ga C.K "WebError")) = some true) ∧ askB C.K clL tyL subB isTB = true ∧ C.K.lookup sysModules = none ∧ exO C.K = true := by
  have e := h.more
  unfold ex at e
  rw [Bool.and_eq_true, Bool.and_eq_true, Bool.and_eq_true, Bool.and_eq_true, Bool.and_eq_true, Bool.and_eq_true, List.all_eq_true, List.all_eq_true, List.all_eq_true, List.all_eq_true, decide_eq_true_eq] at e
  obtain ⟨e1, e2, e3, e4, e5, e6, e7⟩ := e
  exact ⟨e1, e2, fun c hc f hf => He.eqO_ok (List.all_eq_true.mp (e3 c hc) f hf), fun c hc => of_decide_eq_true (e4 c hc), e5, e6, e7⟩
theorem exO_ok (h : FX C.K C.mg) : (∀ p ∈ objF, InsC C.K (He.ga C.K p.1) ∧ ∀ f ∈ p.2, PySem.W.findIn C.K (.ref (He.ga C.K p.1)) f = some none) ∧ (∀ c ∈ mkL, mkB C.K (He.ga C.K c) = true) ∧ (∀ c ∈ eqL, metB C.K (He.ga C.K c) "__eq__" = true ∧ neB C.K (He.ga C.K c) = true) ∧ (∀ c ∈ lenL, metB C.K (He.ga C.K c) "__len__" = true) ∧ ttB tfL C.K = true ∧ impB C.K = true := by
  have e := (ex1 h).2.2.2.2.2.2
  unfold exO at e
  rw [Bool.and_eq_true, Bool.and_eq_true, Bool.and_eq_true, Bool.and_eq_true, Bool.and_eq_true, List.all_eq_true, List.all_eq_true, List.all_eq_true, List.all_eq_true] at e
  obtain ⟨e1, e2, e3, e4, e5⟩ := e
  refine ⟨fun p hp => ?_, e2, fun c hc => by have := e3 c hc; rwa [Bool.and_eq_true] at this, e4, e5⟩
  have q := e1 p hp
  rw [Bool.and_eq_true, List.all_eq_true] at q
  exact ⟨clsB_ok q.1, fun f hf => He.eqO_ok (q.2 f hf)⟩
theorem cl_glo (h : FX C.K C.mg) : ∀ c ∈ clL, C.mg c = some (.ref (He.ga C.K c)) := by
  intro c hc
  unfold clL at hc
  simp only [List.mem_cons, List.not_mem_nil, or_false] at hc
  rcases hc with rfl | rfl | rfl | rfl | rfl | rfl | rfl | rfl | rfl | rfl | rfl | rfl | rfl | rfl | rfl | rfl | rfl | rfl
  · exact (h.glo 33)
  · exact (h.glo 34)
  · exact (h.glo 35)
  · exact (h.glo 36)
  · exact (h.glo 37)
  · exact (h.glo 38)
  · exact (h.glo 39)
  · exact (h.glo 40)
  · exact (h.glo 41)
  · exact (h.glo 42)
  · exact (h.glo 43)
  · exact (h.glo 44)
  · exact (h.glo 45)
  · exact (h.glo 46)
  · exact (h.glo 47)
  · exact (h.glo 48)
  · exact (h.glo 49)
  · exact (h.glo 50)
theorem ex_cl : ∀ c ∈ exL, c ∈ clL := by decide +kernel
theorem ask_ok (h : FX C.K C.mg) : AskOk C ask := askT_ok (ex1 h).2.2.2.2.1 (cl_glo h)
theorem obj_cl : ∀ c ∈ objL, c ∈ clL := by decide +kernel
theorem obj_in : ∀ c ∈ objL, ∃ p ∈ objF, p.1 = c := by decide +kernel
theorem clss_ok (h : FX C.K C.mg) : Clss C objL exL := ⟨(fun c hc cA e => by
  have e2 := cl_glo h c (obj_cl c hc)
  rw [e] at e2
  cases e2
  obtain ⟨p, hp, rfl⟩ := obj_in c hc
  exact ((exO_ok h).1 p hp).1), fun c hc cA e => by
  have e2 := cl_glo h c (ex_cl c hc)
  rw [e] at e2
  cases e2
  exact exIsB_ok ((ex1 h).2.1 c hc)⟩
theorem ob_Web : (("Web", ["many", "ties"]) : Str × List Str) ∈ objF := by decide +kernel
theorem flm_many : ∀ c ∈ fl_many, c ∈ clL ∧ ∃ p ∈ objF, p.1 = c ∧ ("many" : Str) ∈ p.2 := by decide +kernel
theorem fld_many (h : FX C.K C.mg) : FldOk C fl_many "many" := fun c hc cA e => by
  obtain ⟨h1, p, hp, rfl, hf⟩ := flm_many c hc
  have e2 := cl_glo h _ h1
  rw [e] at e2
  cases e2
  exact ⟨((exO_ok h).1 p hp).1.cls, ((exO_ok h).1 p hp).2 _ hf⟩
theorem flm_ties : ∀ c ∈ fl_ties, c ∈ clL ∧ ∃ p ∈ objF, p.1 = c ∧ ("ties" : Str) ∈ p.2 := by decide +kernel
theorem fld_ties (h : FX C.K C.mg) : FldOk C fl_ties "ties" := fun c hc cA e => by
  obtain ⟨h1, p, hp, rfl, hf⟩ := flm_ties c hc
  have e2 := cl_glo h _ h1
  rw [e] at e2
  cases e2
  exact ⟨((exO_ok h).1 p hp).1.cls, ((exO_ok h).1 p hp).2 _ hf⟩
theorem noat_index (h : FX C.K C.mg) : ∀ c ∈ exL, ∀ cA, C.mg c = some (.ref cA) → PySem.W.findIn C.K (.ref cA) "index" = some none := fun c hc cA e => by
  have e2 := cl_glo h c (ex_cl c hc)
  rw [e] at e2
  cases e2
  exact (ex1 h).2.2.1 c hc "index" (by decide +kernel)
theorem noat_limit (h : FX C.K C.mg) : ∀ c ∈ exL, ∀ cA, C.mg c = some (.ref cA) → PySem.W.findIn C.K (.ref cA) "limit" = some none := fun c hc cA e => by
  have e2 := cl_glo h c (ex_cl c hc)
  rw [e] at e2
  cases e2
  exact (ex1 h).2.2.1 c hc "limit" (by decide +kernel)
theorem noat_line (h : FX C.K C.mg) : ∀ c ∈ exL, ∀ cA, C.mg c = some (.ref cA) → PySem.W.findIn C.K (.ref cA) "line" = some none := fun c hc cA e => by
  have e2 := cl_glo h c (ex_cl c hc)
  rw [e] at e2
  cases e2
  exact (ex1 h).2.2.1 c hc "line" (by decide +kernel)
theorem noat_lot (h : FX C.K C.mg) : ∀ c ∈ exL, ∀ cA, C.mg c = some (.ref cA) → PySem.W.findIn C.K (.ref cA) "lot" = some none := fun c hc cA e => by
  have e2 := cl_glo h c (ex_cl c hc)
  rw [e] at e2
  cases e2
  exact (ex1 h).2.2.1 c hc "lot" (by decide +kernel)
theorem noat_many (h : FX C.K C.mg) : ∀ c ∈ exL, ∀ cA, C.mg c = some (.ref cA) → PySem.W.findIn C.K (.ref cA) "many" = some none := fun c hc cA e => by
  have e2 := cl_glo h c (ex_cl c hc)
  rw [e] at e2
  cases e2
  exact (ex1 h).2.2.1 c hc "many" (by decide +kernel)
theorem noat_name (h : FX C.K C.mg) : ∀ c ∈ exL, ∀ cA, C.mg c = some (.ref cA) → PySem.W.findIn C.K (.ref cA) "name" = some none := fun c hc cA e => by
  have e2 := cl_glo h c (ex_cl c hc)
  rw [e] at e2
  cases e2
  exact (ex1 h).2.2.1 c hc "name" (by decide +kernel)
theorem noat_number (h : FX C.K C.mg) : ∀ c ∈ exL, ∀ cA, C.mg c = some (.ref cA) → PySem.W.findIn C.K (.ref cA) "number" = some none := fun c hc cA e => by
  have e2 := cl_glo h c (ex_cl c hc)
  rw [e] at e2
  cases e2
  exact (ex1 h).2.2.1 c hc "number" (by decide +kernel)
theorem noat_paper (h : FX C.K C.mg) : ∀ c ∈ exL, ∀ cA, C.mg c = some (.ref cA) → PySem.W.findIn C.K (.ref cA) "paper" = some none := fun c hc cA e => by
  have e2 := cl_glo h c (ex_cl c hc)
  rw [e] at e2
  cases e2
  exact (ex1 h).2.2.1 c hc "paper" (by decide +kernel)
theorem noat_promise (h : FX C.K C.mg) : ∀ c ∈ exL, ∀ cA, C.mg c = some (.ref cA) → PySem.W.findIn C.K (.ref cA) "promise" = some none := fun c hc cA e => by
  have e2 := cl_glo h c (ex_cl c hc)
  rw [e] at e2
  cases e2
  exact (ex1 h).2.2.1 c hc "promise" (by decide +kernel)
theorem noat_row (h : FX C.K C.mg) : ∀ c ∈ exL, ∀ cA, C.mg c = some (.ref cA) → PySem.W.findIn C.K (.ref cA) "row" = some none := fun c hc cA e => by
  have e2 := cl_glo h c (ex_cl c hc)
  rw [e] at e2
  cases e2
  exact (ex1 h).2.2.1 c hc "row" (by decide +kernel)
theorem noat_what (h : FX C.K C.mg) : ∀ c ∈ exL, ∀ cA, C.mg c = some (.ref cA) → PySem.W.findIn C.K (.ref cA) "what" = some none := fun c hc cA e => by
  have e2 := cl_glo h c (ex_cl c hc)
  rw [e] at e2
  cases e2
  exact (ex1 h).2.2.1 c hc "what" (by decide +kernel)
theorem noat_witness (h : FX C.K C.mg) : ∀ c ∈ exL, ∀ cA, C.mg c = some (.ref cA) → PySem.W.findIn C.K (.ref cA) "witness" = some none := fun c hc cA e => by
  have e2 := cl_glo h c (ex_cl c hc)
  rw [e] at e2
  cases e2
  exact (ex1 h).2.2.1 c hc "witness" (by decide +kernel)
theorem noat_word (h : FX C.K C.mg) : ∀ c ∈ exL, ∀ cA, C.mg c = some (.ref cA) → PySem.W.findIn C.K (.ref cA) "word" = some none := fun c hc cA e => by
  have e2 := cl_glo h c (ex_cl c hc)
  rw [e] at e2
  cases e2
  exact (ex1 h).2.2.1 c hc "word" (by decide +kernel)
theorem exm_WebError (h : FX C.K C.mg) : ∀ y ∈ exL, ∀ cB, C.mg y = some (.ref cB) → PySem.W.exmOne C.K (.ref cB) (.ref (He.ga C.K "WebError")) = some true := fun c hc cA e => by
  have e2 := cl_glo h c (ex_cl c hc)
  rw [e] at e2
  cases e2
  exact (ex1 h).2.2.2.1 c hc
theorem exN_NothingToUndo (h : FX C.K C.mg) : ExcN C "NothingToUndo" := excN_of h (h.glo 48) 54
theorem exN_NothingToRedo (h : FX C.K C.mg) : ExcN C "NothingToRedo" := excN_of h (h.glo 49) 55
theorem scI_BadNumber : FnScope ["self", "what", "number"] ["self", "what", "number"] (defScope s33) := ⟨rfl, rfl, rfl, by decide +kernel, rfl, by decide +kernel, by decide +kernel⟩
theorem exD_BadNumber (h : FX C.K C.mg) : ExcD C P w base "BadNumber" ["what", "number"] 1 := by
  obtain ⟨fd, F⟩ := h.says.def_ 33 (d := d33) rfl
  exact excD_of ((ex1 h).1 ("BadNumber", ["what", "number"]) (by decide +kernel)) (h.glo 34) (F.bindsN fun _ _ _ _ _ _ us hl => match us, hl with | [_, _, _], _ => rfl) (F.ok scI_BadNumber (fun vs H Q E q => spI_len q) fun cdv A outer s H vs Q E hr q => ⟨_, (pss_cons (ps_ost (pe_var (i := 0) rfl (.inl rfl)) (pe_var (i := 1) rfl (.inl rfl))) (pss_one (ps_ost (pe_var (i := 0) rfl (.inl rfl)) (pe_var (i := 2) rfl (.inl rfl))))), init2 q⟩)
theorem scI_BadRow : FnScope ["self", "what", "row"] ["self", "what", "row"] (defScope s34) := ⟨rfl, rfl, rfl, by decide +kernel, rfl, by decide +kernel, by decide +kernel⟩
theorem exD_BadRow (h : FX C.K C.mg) : ExcD C P w base "BadRow" ["what", "row"] 1 := by
  obtain ⟨fd, F⟩ := h.says.def_ 34 (d := d34) rfl
  exact excD_of ((ex1 h).1 ("BadRow", ["what", "row"]) (by decide +kernel)) (h.glo 35) (F.bindsN fun _ _ _ _ _ _ us hl => match us, hl with | [_, _, _], _ => rfl) (F.ok scI_BadRow (fun vs H Q E q => spI_len q) fun cdv A outer s H vs Q E hr q => ⟨_, (pss_cons (ps_ost (pe_var (i := 0) rfl (.inl rfl)) (pe_var (i := 1) rfl (.inl rfl))) (pss_one (ps_ost (pe_var (i := 0) rfl (.inl rfl)) (pe_var (i := 2) rfl (.inl rfl))))), init2 q⟩)
theorem scI_BadTable : FnScope ["self", "what"] ["self", "what"] (defScope s35) := ⟨rfl, rfl, rfl, by decide +kernel, rfl, by decide +kernel, by decide +kernel⟩
theorem exD_BadTable (h : FX C.K C.mg) : ExcD C P w base "BadTable" ["what"] 1 := by
  obtain ⟨fd, F⟩ := h.says.def_ 35 (d := d35) rfl
  exact excD_of ((ex1 h).1 ("BadTable", ["what"]) (by decide +kernel)) (h.glo 36) (F.bindsN fun _ _ _ _ _ _ us hl => match us, hl with | [_, _], _ => rfl) (F.ok scI_BadTable (fun vs H Q E q => spI_len q) fun cdv A outer s H vs Q E hr q => ⟨_, (pss_one (ps_ost (pe_var (i := 0) rfl (.inl rfl)) (pe_var (i := 1) rfl (.inl rfl)))), init1 q⟩)
theorem scI_BadWeb : FnScope ["self", "what"] ["self", "what"] (defScope s36) := ⟨rfl, rfl, rfl, by decide +kernel, rfl, by decide +kernel, by decide +kernel⟩
theorem exD_BadWeb (h : FX C.K C.mg) : ExcD C P w base "BadWeb" ["what"] 1 := by
  obtain ⟨fd, F⟩ := h.says.def_ 36 (d := d36) rfl
  exact excD_of ((ex1 h).1 ("BadWeb", ["what"]) (by decide +kernel)) (h.glo 37) (F.bindsN fun _ _ _ _ _ _ us hl => match us, hl with | [_, _], _ => rfl) (F.ok scI_BadWeb (fun vs H Q E q => spI_len q) fun cdv A outer s H vs Q E hr q => ⟨_, (pss_one (ps_ost (pe_var (i := 0) rfl (.inl rfl)) (pe_var (i := 1) rfl (.inl rfl)))), init1 q⟩)
theorem scI_BadLot : FnScope ["self", "what", "lot"] ["self", "what", "lot"] (defScope s37) := ⟨rfl, rfl, rfl, by decide +kernel, rfl, by decide +kernel, by decide +kernel⟩
theorem exD_BadLot (h : FX C.K C.mg) : ExcD C P w base "BadLot" ["what", "lot"] 1 := by
  obtain ⟨fd, F⟩ := h.says.def_ 37 (d := d37) rfl
  exact excD_of ((ex1 h).1 ("BadLot", ["what", "lot"]) (by decide +kernel)) (h.glo 38) (F.bindsN fun _ _ _ _ _ _ us hl => match us, hl with | [_, _, _], _ => rfl) (F.ok scI_BadLot (fun vs H Q E q => spI_len q) fun cdv A outer s H vs Q E hr q => ⟨_, (pss_cons (ps_ost (pe_var (i := 0) rfl (.inl rfl)) (pe_var (i := 1) rfl (.inl rfl))) (pss_one (ps_ost (pe_var (i := 0) rfl (.inl rfl)) (pe_var (i := 2) rfl (.inl rfl))))), init2 q⟩)
theorem scI_BadName : FnScope ["self", "name"] ["self", "name"] (defScope s38) := ⟨rfl, rfl, rfl, by decide +kernel, rfl, by decide +kernel, by decide +kernel⟩
theorem exD_BadName (h : FX C.K C.mg) : ExcD C P w base "BadName" ["name"] 1 := by
  obtain ⟨fd, F⟩ := h.says.def_ 38 (d := d38) rfl
  exact excD_of ((ex1 h).1 ("BadName", ["name"]) (by decide +kernel)) (h.glo 39) (F.bindsN fun _ _ _ _ _ _ us hl => match us, hl with | [_, _], _ => rfl) (F.ok scI_BadName (fun vs H Q E q => spI_len q) fun cdv A outer s H vs Q E hr q => ⟨_, (pss_one (ps_ost (pe_var (i := 0) rfl (.inl rfl)) (pe_var (i := 1) rfl (.inl rfl)))), init1 q⟩)
theorem scI_BadText : FnScope ["self", "line", "word"] ["self", "line", "word"] (defScope s39) := ⟨rfl, rfl, rfl, by decide +kernel, rfl, by decide +kernel, by decide +kernel⟩
theorem exD_BadText (h : FX C.K C.mg) : ExcD C P w base "BadText" ["line", "word"] 1 := by
  obtain ⟨fd, F⟩ := h.says.def_ 39 (d := d39) rfl
  exact excD_of ((ex1 h).1 ("BadText", ["line", "word"]) (by decide +kernel)) (h.glo 40) (F.bindsN fun _ _ _ _ _ _ us hl => match us, hl with | [_, _, _], _ => rfl) (F.ok scI_BadText (fun vs H Q E q => spI_len q) fun cdv A outer s H vs Q E hr q => ⟨_, (pss_cons (ps_ost (pe_var (i := 0) rfl (.inl rfl)) (pe_var (i := 1) rfl (.inl rfl))) (pss_one (ps_ost (pe_var (i := 0) rfl (.inl rfl)) (pe_var (i := 2) rfl (.inl rfl))))), init2 q⟩)
theorem scI_NoPlace : FnScope ["self", "what", "index"] ["self", "what", "index"] (defScope s40) := ⟨rfl, rfl, rfl, by decide +kernel, rfl, by decide +kernel, by decide +kernel⟩
theorem exD_NoPlace (h : FX C.K C.mg) : ExcD C P w base "NoPlace" ["what", "index"] 1 := by
  obtain ⟨fd, F⟩ := h.says.def_ 40 (d := d40) rfl
  exact excD_of ((ex1 h).1 ("NoPlace", ["what", "index"]) (by decide +kernel)) (h.glo 41) (F.bindsN fun _ _ _ _ _ _ us hl => match us, hl with | [_, _, _], _ => rfl) (F.ok scI_NoPlace (fun vs H Q E q => spI_len q) fun cdv A outer s H vs Q E hr q => ⟨_, (pss_cons (ps_ost (pe_var (i := 0) rfl (.inl rfl)) (pe_var (i := 1) rfl (.inl rfl))) (pss_one (ps_ost (pe_var (i := 0) rfl (.inl rfl)) (pe_var (i := 2) rfl (.inl rfl))))), init2 q⟩)
theorem scI_NoName : FnScope ["self", "name"] ["self", "name"] (defScope s41) := ⟨rfl, rfl, rfl, by decide +kernel, rfl, by decide +kernel, by decide +kernel⟩
theorem exD_NoName (h : FX C.K C.mg) : ExcD C P w base "NoName" ["name"] 1 := by
  obtain ⟨fd, F⟩ := h.says.def_ 41 (d := d41) rfl
  exact excD_of ((ex1 h).1 ("NoName", ["name"]) (by decide +kernel)) (h.glo 42) (F.bindsN fun _ _ _ _ _ _ us hl => match us, hl with | [_, _], _ => rfl) (F.ok scI_NoName (fun vs H Q E q => spI_len q) fun cdv A outer s H vs Q E hr q => ⟨_, (pss_one (ps_ost (pe_var (i := 0) rfl (.inl rfl)) (pe_var (i := 1) rfl (.inl rfl)))), init1 q⟩)
theorem scI_TakenName : FnScope ["self", "name"] ["self", "name"] (defScope s42) := ⟨rfl, rfl, rfl, by decide +kernel, rfl, by decide +kernel, by decide +kernel⟩
theorem exD_TakenName (h : FX C.K C.mg) : ExcD C P w base "TakenName" ["name"] 1 := by
  obtain ⟨fd, F⟩ := h.says.def_ 42 (d := d42) rfl
  exact excD_of ((ex1 h).1 ("TakenName", ["name"]) (by decide +kernel)) (h.glo 43) (F.bindsN fun _ _ _ _ _ _ us hl => match us, hl with | [_, _], _ => rfl) (F.ok scI_TakenName (fun vs H Q E q => spI_len q) fun cdv A outer s H vs Q E hr q => ⟨_, (pss_one (ps_ost (pe_var (i := 0) rfl (.inl rfl)) (pe_var (i := 1) rfl (.inl rfl)))), init1 q⟩)
theorem scI_Unlike : FnScope ["self", "what"] ["self", "what"] (defScope s43) := ⟨rfl, rfl, rfl, by decide +kernel, rfl, by decide +kernel, by decide +kernel⟩
theorem exD_Unlike (h : FX C.K C.mg) : ExcD C P w base "Unlike" ["what"] 1 := by
  obtain ⟨fd, F⟩ := h.says.def_ 43 (d := d43) rfl
  exact excD_of ((ex1 h).1 ("Unlike", ["what"]) (by decide +kernel)) (h.glo 44) (F.bindsN fun _ _ _ _ _ _ us hl => match us, hl with | [_, _], _ => rfl) (F.ok scI_Unlike (fun vs H Q E q => spI_len q) fun cdv A outer s H vs Q E hr q => ⟨_, (pss_one (ps_ost (pe_var (i := 0) rfl (.inl rfl)) (pe_var (i := 1) rfl (.inl rfl)))), init1 q⟩)
theorem scI_NotThere : FnScope ["self", "paper"] ["self", "paper"] (defScope s44) := ⟨rfl, rfl, rfl, by decide +kernel, rfl, by decide +kernel, by decide +kernel⟩
theorem exD_NotThere (h : FX C.K C.mg) : ExcD C P w base "NotThere" ["paper"] 1 := by
  obtain ⟨fd, F⟩ := h.says.def_ 44 (d := d44) rfl
  exact excD_of ((ex1 h).1 ("NotThere", ["paper"]) (by decide +kernel)) (h.glo 45) (F.bindsN fun _ _ _ _ _ _ us hl => match us, hl with | [_, _], _ => rfl) (F.ok scI_NotThere (fun vs H Q E q => spI_len q) fun cdv A outer s H vs Q E hr q => ⟨_, (pss_one (ps_ost (pe_var (i := 0) rfl (.inl rfl)) (pe_var (i := 1) rfl (.inl rfl)))), init1 q⟩)
theorem scI_TooMany : FnScope ["self", "what", "many", "limit"] ["self", "what", "many", "limit"] (defScope s45) := ⟨rfl, rfl, rfl, by decide +kernel, rfl, by decide +kernel, by decide +kernel⟩
theorem exD_TooMany (h : FX C.K C.mg) : ExcD C P w base "TooMany" ["what", "many", "limit"] 1 := by
  obtain ⟨fd, F⟩ := h.says.def_ 45 (d := d45) rfl
  exact excD_of ((ex1 h).1 ("TooMany", ["what", "many", "limit"]) (by decide +kernel)) (h.glo 46) (F.bindsN fun _ _ _ _ _ _ us hl => match us, hl with | [_, _, _, _], _ => rfl) (F.ok scI_TooMany (fun vs H Q E q => spI_len q) fun cdv A outer s H vs Q E hr q => ⟨_, (pss_cons (ps_ost (pe_var (i := 0) rfl (.inl rfl)) (pe_var (i := 1) rfl (.inl rfl))) (pss_cons (ps_ost (pe_var (i := 0) rfl (.inl rfl)) (pe_var (i := 2) rfl (.inl rfl))) (pss_one (ps_ost (pe_var (i := 0) rfl (.inl rfl)) (pe_var (i := 3) rfl (.inl rfl)))))), init3 q⟩)
theorem scI_NotKept : FnScope ["self", "promise", "witness"] ["self", "promise", "witness"] (defScope s46) := ⟨rfl, rfl, rfl, by decide +kernel, rfl, by decide +kernel, by decide +kernel⟩
theorem exD_NotKept (h : FX C.K C.mg) : ExcD C P w base "NotKept" ["promise", "witness"] 1 := by
  obtain ⟨fd, F⟩ := h.says.def_ 46 (d := d46) rfl
  exact excD_of ((ex1 h).1 ("NotKept", ["promise", "witness"]) (by decide +kernel)) (h.glo 47) (F.bindsN fun _ _ _ _ _ _ us hl => match us, hl with | [_, _, _], _ => rfl) (F.ok scI_NotKept (fun vs H Q E q => spI_len q) fun cdv A outer s H vs Q E hr q => ⟨_, (pss_cons (ps_ost (pe_var (i := 0) rfl (.inl rfl)) (pe_var (i := 1) rfl (.inl rfl))) (pss_one (ps_ost (pe_var (i := 0) rfl (.inl rfl)) (pe_var (i := 2) rfl (.inl rfl))))), init2 q⟩)
end
def b_is_integer : SM :=
    (mRet (mV (mTAnd (mT (mCall (kIsi objL exL ask) (aCons (mVal 0) (aCons (mC (.ty "int")) aNil)))) (mTNot (mT (mCall (kIsi objL exL ask) (aCons (mVal 0) (aCons (mC (.ty "bool")) aNil))))))))
def m_is_integer : FM := mDef 1 b_is_integer
theorem sc_is_integer : FnScope ["value"] ["value"] (defScope s0) := ⟨rfl, rfl, rfl, by decide +kernel, rfl, by decide +kernel, by decide +kernel⟩
theorem fn_is_integer {C : Ctx} {P : Program} {wd : World} {base : Heap} (h : FX C.K C.mg) (hx : C.ex = none) : Fn C P wd base true "is_integer" 1 1 m_is_integer := by
  obtain ⟨fd, F⟩ := h.says.def_ 0 (d := d0) rfl
  exact fn_of (N := ["value"]) (m := b_is_integer) F (h.glo 0) sc_is_integer hx (F.bindsN (ps := ["value"]) fun _ _ _ _ _ _ us hl => match us, hl with | [_], _ => rfl) fun cdv A outer s H E w =>
    (sm_one (sm_ret (vm_and (vm (pm_isi rfl (Hot.none w.cold) (ask_ok h) askT_c (clss_ok h) (h.free 60) (bm_cons (pb (pm_val 0)) (bm_cons (pb (pm_gty (h.free 59) (by with_unfolding_all rfl))) bm_nil)))) (vm_one (vm_not (vm (pm_isi rfl (Hot.none w.cold) (ask_ok h) askT_c (clss_ok h) (h.free 60) (bm_cons (pb (pm_val 0)) (bm_cons (pb (pm_gty (h.free 58) (by with_unfolding_all rfl))) bm_nil)))))))))
def b_as_tuples (r : FM) : SM :=
    (mSeq (mIfS (mT (mCall (kIsiT objL ask) (aCons (mVal 0) (aCons (mTup (aCons (mC (.ty "list")) (aCons (mC (.ty "tuple")) aNil))) aNil)))) (mRet (mCall kTuple (aCons (mFr (mComp (mIt (mVal 0)) [1] (gNm 1) tmYes (mFn r (aCons (mVal 1) aNil)))) aNil))) mNext)
    (mRet (mVal 0)))
def m_as_tuples : Nat → FM
  | 0 => fun _ _ => .bad
  | n + 1 => mDef 2 (b_as_tuples (m_as_tuples n))
theorem sc_as_tuples : FnScope ["value", "one"] ["value"] (defScope s1) := ⟨rfl, rfl, rfl, by decide +kernel, rfl, by decide +kernel, by decide +kernel⟩
theorem fn_as_tuples {C : Ctx} {P : Program} {wd : World} {base : Heap} (h : FX C.K C.mg) (hx : C.ex = none) (n : Nat) : Fn C P wd base true "as_tuples" (1 + n) 1 (m_as_tuples n) := by
  obtain ⟨fd, F⟩ := h.says.def_ 1 (d := d1) rfl
  have hb := (F.bindsN (ps := ["value"]) fun _ _ _ _ _ _ us hl => match us, hl with | [_], _ => rfl)
  induction n with
  | zero => exact fn_bad F (h.glo 1) hb
  | succ n ih =>
    exact fn_of (N := ["value", "one"]) (m := b_as_tuples (m_as_tuples n)) (k := 1 + n) F (h.glo 1) sc_as_tuples hx hb fun cdv A outer s H E w =>
    (sm_cons (sm_if (tm_val (pm_isiT rfl (ask_ok h) (clss_ok h) (h.free 60) (bm_cons (pb (pm_val 0)) (bm_cons (pb (pm_tup (am_cons (pm_gty (h.free 62) (by with_unfolding_all rfl)) (am_cons (pm_gty (h.free 69) (by with_unfolding_all rfl)) am_nil)))) bm_nil)))) (sm_one (sm_ret (pm_tuple (h.free 69) (pfb (pm_lc rfl sc_as_tuples.nd (im_seqB (pb (pm_val 0))) (own := [("one", 1)]) (blk_of (by kernel_rfl)) (fun s H Cb cl fp => (gm_name 1 sc_as_tuples.nd)) (fun s H Cb cl fp => tms_nil) (fun s H Cb cl fp => (pm_call ih (w.blk s H _ Cb cl fp) (Nat.le_refl _) (fun _ => rfl) (am_cons (pm_val 1) am_nil) (al a0)))))))) sm_nil)
    (sm_one (sm_ret (pm_val 0))))
def b_is_list : SM :=
    (mRet (mCall (kIsiT objL ask) (aCons (mVal 0) (aCons (mTup (aCons (mC (.ty "list")) (aCons (mC (.ty "tuple")) aNil))) aNil))))
def m_is_list : FM := mDef 1 b_is_list
theorem sc_is_list : FnScope ["value"] ["value"] (defScope s2) := ⟨rfl, rfl, rfl, by decide +kernel, rfl, by decide +kernel, by decide +kernel⟩
theorem fn_is_list {C : Ctx} {P : Program} {wd : World} {base : Heap} (h : FX C.K C.mg) (hx : C.ex = none) : Fn C P wd base true "is_list" 1 1 m_is_list := by
  obtain ⟨fd, F⟩ := h.says.def_ 2 (d := d2) rfl
  exact fn_of (N := ["value"]) (m := b_is_list) F (h.glo 2) sc_is_list hx (F.bindsN (ps := ["value"]) fun _ _ _ _ _ _ us hl => match us, hl with | [_], _ => rfl) fun cdv A outer s H E w =>
    (sm_one (sm_ret (pm_isiT rfl (ask_ok h) (clss_ok h) (h.free 60) (bm_cons (pb (pm_val 0)) (bm_cons (pb (pm_tup (am_cons (pm_gty (h.free 62) (by with_unfolding_all rfl)) (am_cons (pm_gty (h.free 69) (by with_unfolding_all rfl)) am_nil)))) bm_nil)))))
def b_is_index : SM :=
    (mRet (mV (mTAnd (mT (mFn m_is_integer (aCons (mVal 0) aNil))) (mT (mChain kLe kLt (mC (.int 0)) (mVal 0) (mVal 1))))))
def m_is_index : FM := mDef 2 b_is_index
theorem sc_is_index : FnScope ["value", "many"] ["value", "many"] (defScope s3) := ⟨rfl, rfl, rfl, by decide +kernel, rfl, by decide +kernel, by decide +kernel⟩
theorem fn_is_index {C : Ctx} {P : Program} {wd : World} {base : Heap} (h : FX C.K C.mg) (hx : C.ex = none) : Fn C P wd base true "is_index" 2 2 m_is_index := by
  obtain ⟨fd, F⟩ := h.says.def_ 3 (d := d3) rfl
  exact fn_of (N := ["value", "many"]) (m := b_is_index) F (h.glo 3) sc_is_index hx (F.bindsN (ps := ["value", "many"]) fun _ _ _ _ _ _ us hl => match us, hl with | [_, _], _ => rfl) fun cdv A outer s H E w =>
    (sm_one (sm_ret (vm_and (vm (pm_call (fn_is_integer (C := C) h w.cold) w (by decide) (fun _ => rfl) (am_cons (pm_val 0) am_nil) (al a0))) (vm_one (vm (pm_chain ok_le ok_lt op_le op_lt (pb pm_int) (pb (pm_val 0)) (pb (pm_val 1))))))))
def b_Web___eq__ : SM :=
    (mRet (mV (mTAnd (mT (mCall (kIsi objL exL ask) (aCons (mVal 1) (aCons (mC (.fn "Web")) aNil)))) (mTAnd (mT (mOp kEq (mFld fl_many "many" (mVal 0)) (mFld fl_many "many" (mVal 1)))) (mT (mOp kEq (mFld fl_ties "ties" (mVal 0)) (mFld fl_ties "ties" (mVal 1))))))))
def m_Web___eq__ : FM := mDef 2 b_Web___eq__
theorem sc_Web___eq__ : FnScope ["self", "other"] ["self", "other"] (defScope s48) := ⟨rfl, rfl, rfl, by decide +kernel, rfl, by decide +kernel, by decide +kernel⟩
theorem eq_Web {C : Ctx} {P : Program} {wd : World} {base : Heap} (h : FX C.K C.mg) (hx : C.ex = none) : OwnEq C P wd base true "Web" 1 m_Web___eq__ := by
  obtain ⟨fd, F⟩ := h.says.def_ 48 (d := d48) rfl
  exact ownEq_of (m := m_Web___eq__) (h.glo 50) ((exO_ok h).2.2.1 _ (by decide +kernel)).1 ((exO_ok h).2.2.1 _ (by decide +kernel)).2 ((exO_ok h).1 _ ob_Web).1 (F.bindsN (ps := ["self", "other"]) fun _ _ _ _ _ _ us hl => match us, hl with | [_, _], _ => rfl) rfl (fnA_of (N := ["self", "other"]) (m := b_Web___eq__) F sc_Web___eq__ hx fun cdv A outer s H E w =>
    (sm_one (sm_ret (vm_and (vm (pm_isi rfl (Hot.none w.cold) (ask_ok h) askT_c (clss_ok h) (h.free 60) (bm_cons (pb (pm_val 1)) (bm_cons (pb (pm_gfn rfl (h.glo 50))) bm_nil)))) (vm_and (vm (pm_eq w.hu (pb (pm_fld rfl (fld_many h) (pb (pm_val 0)))) (pb (pm_fld rfl (fld_many h) (pb (pm_val 1)))))) (vm_one (vm (pm_eq w.hu (pb (pm_fld rfl (fld_ties h) (pb (pm_val 0)))) (pb (pm_fld rfl (fld_ties h) (pb (pm_val 1))))))))))))
def b_Web___len__ : SM :=
    (mRet (mCall kLen (aCons (mFld fl_ties "ties" (mVal 0)) aNil)))
def m_Web___len__ : FM := mDef 1 b_Web___len__
theorem sc_Web___len__ : FnScope ["self"] ["self"] (defScope s49) := ⟨rfl, rfl, rfl, by decide +kernel, rfl, by decide +kernel, by decide +kernel⟩
theorem len_Web {C : Ctx} {P : Program} {wd : World} {base : Heap} (h : FX C.K C.mg) (hx : C.ex = none) : OwnLen C P wd base true "Web" 1 m_Web___len__ := by
  obtain ⟨fd, F⟩ := h.says.def_ 49 (d := d49) rfl
  exact ownLen_of (m := m_Web___len__) (h.glo 50) ((exO_ok h).2.2.2.1 _ (by decide +kernel)) (F.bindsN (ps := ["self"]) fun _ _ _ _ _ _ us hl => match us, hl with | [_], _ => rfl) rfl (fnA_of (N := ["self"]) (m := b_Web___len__) F sc_Web___len__ hx fun cdv A outer s H E w =>
    (sm_one (sm_ret (pm_len (h.free 61) (pb (pm_fld rfl (fld_ties h) (pb (pm_val 0))))))))
def b_is_indexes : SM :=
    (mRet (mV (mTAnd (mT (mFn m_is_list (aCons (mVal 0) aNil))) (mTAnd (mT (mOp kEq (mCall kLen (aCons (mVal 0) aNil)) (mVal 1))) (mT (mCall kAll (aCons (mFr (mComp (mIt (mVal 0)) [2] (gNm 2) tmYes (mFn m_is_integer (aCons (mVal 2) aNil)))) aNil)))))))
def m_is_indexes : FM := mDef 3 b_is_indexes
theorem sc_is_indexes : FnScope ["value", "many", "one"] ["value", "many"] (defScope s4) := ⟨rfl, rfl, rfl, by decide +kernel, rfl, by decide +kernel, by decide +kernel⟩
theorem fn_is_indexes {C : Ctx} {P : Program} {wd : World} {base : Heap} (h : FX C.K C.mg) (hx : C.ex = none) : Fn C P wd base true "is_indexes" 2 2 m_is_indexes := by
  obtain ⟨fd, F⟩ := h.says.def_ 4 (d := d4) rfl
  exact fn_of (N := ["value", "many", "one"]) (m := b_is_indexes) F (h.glo 4) sc_is_indexes hx (F.bindsN (ps := ["value", "many"]) fun _ _ _ _ _ _ us hl => match us, hl with | [_, _], _ => rfl) fun cdv A outer s H E w =>
    (sm_one (sm_ret (vm_and (vm (pm_call (fn_is_list (C := C) h w.cold) w (by decide) (fun _ => rfl) (am_cons (pm_val 0) am_nil) (al a0))) (vm_and (vm (pm_eq w.hu (pb (pm_len (h.free 61) (pb (pm_val 0)))) (pb (pm_val 1)))) (vm_one (vm (pm_all rfl (h.free 57) (pfb (pm_lc rfl sc_is_indexes.nd (im_seqB (pb (pm_val 0))) (own := [("one", 2)]) (blk_of (by kernel_rfl)) (fun s H Cb cl fp => (gm_name 2 sc_is_indexes.nd)) (fun s H Cb cl fp => tms_nil) (fun s H Cb cl fp => (pm_call (fn_is_integer (C := C) h w.cold) (w.blk s H _ Cb cl fp) (by decide) (fun _ => rfl) (am_cons (pm_val 2) am_nil) (al a0))))))))))))
def b_is_tie : SM :=
    (mRet (mV (mTAnd (mT (mFn m_is_list (aCons (mVal 0) aNil))) (mTAnd (mT (mOp kEq (mCall kLen (aCons (mVal 0) aNil)) (mC (.int 2)))) (mTAnd (mT (mCall kAll (aCons (mFr (mComp (mIt (mVal 0)) [2] (gNm 2) tmYes (mFn m_is_index (aCons (mVal 2) (aCons (mVal 1) aNil))))) aNil))) (mT (mOp kLt (mOp kIx (mVal 0) (mC (.int 0))) (mOp kIx (mVal 0) (mC (.int 1))))))))))
def m_is_tie : FM := mDef 3 b_is_tie
theorem sc_is_tie : FnScope ["value", "many", "one"] ["value", "many"] (defScope s5) := ⟨rfl, rfl, rfl, by decide +kernel, rfl, by decide +kernel, by decide +kernel⟩
theorem fn_is_tie {C : Ctx} {P : Program} {wd : World} {base : Heap} (h : FX C.K C.mg) (hx : C.ex = none) : Fn C P wd base true "is_tie" 3 2 m_is_tie := by
  obtain ⟨fd, F⟩ := h.says.def_ 5 (d := d5) rfl
  exact fn_of (N := ["value", "many", "one"]) (m := b_is_tie) F (h.glo 5) sc_is_tie hx (F.bindsN (ps := ["value", "many"]) fun _ _ _ _ _ _ us hl => match us, hl with | [_, _], _ => rfl) fun cdv A outer s H E w =>
    (sm_one (sm_ret (vm_and (vm (pm_call (fn_is_list (C := C) h w.cold) w (by decide) (fun _ => rfl) (am_cons (pm_val 0) am_nil) (al a0))) (vm_and (vm (pm_eq w.hu (pb (pm_len (h.free 61) (pb (pm_val 0)))) (pb pm_int))) (vm_and (vm (pm_all rfl (h.free 57) (pfb (pm_lc rfl sc_is_tie.nd (im_seqB (pb (pm_val 0))) (own := [("one", 2)]) (blk_of (by kernel_rfl)) (fun s H Cb cl fp => (gm_name 2 sc_is_tie.nd)) (fun s H Cb cl fp => tms_nil) (fun s H Cb cl fp => (pm_call (fn_is_index (C := C) h w.cold) (w.blk s H _ Cb cl fp) (by decide) (fun _ => rfl) (am_cons (pm_val 2) (am_cons (pm_val 1) am_nil)) (al (al a0)))))))) (vm_one (vm (pm_lt (pb (pm_ix (pb (pm_val 0)) (pb pm_int))) (pb (pm_ix (pb (pm_val 0)) (pb pm_int)))))))))))
def b_parts_by : SM :=
    (mSeq (mSet (mFr (mLRg (mRg1 (mVal 0)))) (gNm 2))
    (mSeq (mFor (mIt (mVal 1)) (gTp (gsCons (gNm 3) (gsCons (gNm 4) gsNil)))
    (mSeq (mSet (mTup (aCons (mCall kMin2 (aCons (mOp kIx (mVal 2) (mVal 3)) (aCons (mOp kIx (mVal 2) (mVal 4)) aNil))) (aCons (mCall kMax2 (aCons (mOp kIx (mVal 2) (mVal 3)) (aCons (mOp kIx (mVal 2) (mVal 4)) aNil))) aNil))) (gTp (gsCons (gNm 5) (gsCons (gNm 6) gsNil))))
    (mIfS (mT (mOp kNe (mVal 5) (mVal 6))) (mSeq (mSetO (mComp (mIt (mVal 2)) [7] (gNm 7) tmYes (mIf (mT (mOp kEq (mVal 7) (mVal 6))) (mVal 5) (mVal 7))) 2)
    (mFrzS 2 mNext)) mNext)))
    (mRet (mVal 2))))
def m_parts_by : FM := mDef 8 b_parts_by
theorem sc_parts_by : FnScope ["many", "ties", "parts", "a", "b", "one", "other", "part"] ["many", "ties"] (defScope s6) := ⟨rfl, rfl, rfl, by decide +kernel, rfl, by decide +kernel, by decide +kernel⟩
theorem fn_parts_by {C : Ctx} {P : Program} {wd : World} {base : Heap} (h : FX C.K C.mg) (hx : C.ex = none) : Fn C P wd base true "parts_by" 1 2 m_parts_by := by
  obtain ⟨fd, F⟩ := h.says.def_ 6 (d := d6) rfl
  exact fn_of (N := ["many", "ties", "parts", "a", "b", "one", "other", "part"]) (m := b_parts_by) F (h.glo 6) sc_parts_by hx (F.bindsN (ps := ["many", "ties"]) fun _ _ _ _ _ _ us hl => match us, hl with | [_, _], _ => rfl) fun cdv A outer s H E w =>
    (sm_cons (sm_set 2 sc_parts_by.nd (pf (pm_listRg rfl (h.free 62) (rg_1 (h.free 65) (pb (pm_val 0))))))
    (sm_cons (sm_for (passes_of rfl) rfl (im_seq (pm_val 1)) (gm_tup rfl (gms_cons (gm_name 3 sc_parts_by.nd) (gms_cons (gm_name 4 sc_parts_by.nd) gms_nil)) (gl (gl gl0)))
    (sm_cons (sm_asg (pm_tup (am_cons (pm_min2 rfl (h.free 64) (pb (pm_ix (pb (pm_val 2)) (pb (pm_val 3)))) (pb (pm_ix (pb (pm_val 2)) (pb (pm_val 4))))) (am_cons (pm_max2 rfl (h.free 63) (pb (pm_ix (pb (pm_val 2)) (pb (pm_val 3)))) (pb (pm_ix (pb (pm_val 2)) (pb (pm_val 4))))) am_nil))) (gm_tup rfl (gms_cons (gm_name 5 sc_parts_by.nd) (gms_cons (gm_name 6 sc_parts_by.nd) gms_nil)) (gl (gl gl0))))
    (sm_one (sm_if (tm_ne w.hu (pb (pm_val 5)) (pb (pm_val 6))) (sm_cons (sm_setLc 2 rfl sc_parts_by.nd (im_seqB (pb (pm_val 2))) (own := [("part", 7)]) (blk_of (by kernel_rfl)) (fun s H Cb cl fp => (gm_name 7 sc_parts_by.nd)) (fun s H Cb cl fp => tms_nil) (fun s H Cb cl fp => (pm_if (tm_eq (w.blk s H _ Cb cl fp).hu (pb (pm_val 7)) (pb (pm_val 6))) (pm_val 5) (pm_val 7))))
    (ss_frz 2 sm_nil)) sm_nil))))
    (sm_one (sm_ret (pm_val 2)))))
def b_need_chip_web : SM :=
    (mSeq (mIfS (mT (mOp kGt (mCall kMaxA (aCons (mFn m_parts_by (aCons (mFld fl_many "many" (mVal 0)) (aCons (mFld fl_ties "ties" (mVal 0)) aNil))) aNil)) (mC (.int 0)))) (mRaise "Unlike" ["what"] (aCons (mC (.str "web")) aNil)) mNext)
    (mIfS (mT (mOp kGt (mFld fl_many "many" (mVal 0)) (mC (.int 8)))) (mRaise "TooMany" ["what", "many", "limit"] (aCons (mC (.str "nodes")) (aCons (mFld fl_many "many" (mVal 0)) (aCons (mC (.int 8)) aNil)))) mNext))
def m_need_chip_web : FM := mDef 1 b_need_chip_web
theorem sc_need_chip_web : FnScope ["web"] ["web"] (defScope s7) := ⟨rfl, rfl, rfl, by decide +kernel, rfl, by decide +kernel, by decide +kernel⟩
theorem fn_need_chip_web {C : Ctx} {P : Program} {wd : World} {base : Heap} (h : FX C.K C.mg) (hx : C.ex = none) : Fn C P wd base true "need_chip_web" 3 1 m_need_chip_web := by
  obtain ⟨fd, F⟩ := h.says.def_ 7 (d := d7) rfl
  exact fn_of (N := ["web"]) (m := b_need_chip_web) F (h.glo 7) sc_need_chip_web hx (F.bindsN (ps := ["web"]) fun _ _ _ _ _ _ us hl => match us, hl with | [_], _ => rfl) fun cdv A outer s H E w =>
    (sm_cons (sm_if (tm_gt (pb (pm_maxA rfl (h.free 63) (pb (pm_call (fn_parts_by (C := C) h w.cold) w (by decide) (fun _ => rfl) (am_cons (pm_fld rfl (fld_many h) (pb (pm_val 0))) (am_cons (pm_fld rfl (fld_ties h) (pb (pm_val 0))) am_nil)) (al (al a0)))))) (pb pm_int)) (sm_one (sm_raise w rfl (exD_Unlike h) (by decide) (am_cons pm_str am_nil))) sm_nil)
    (sm_one (sm_if (tm_gt (pb (pm_fld rfl (fld_many h) (pb (pm_val 0)))) (pb (pm_gint (h.int 53).choose_spec ⟨_, rfl⟩))) (sm_one (sm_raise w rfl (exD_TooMany h) (by decide) (am_cons pm_str (am_cons (pm_fld rfl (fld_many h) (pb (pm_val 0))) (am_cons (pm_gint (h.int 53).choose_spec ⟨_, rfl⟩) am_nil))))) sm_nil)))
def b_need_chips : SM :=
    (mSeq (mIfS (mTNot (mT (mFn m_is_indexes (aCons (mVal 1) (aCons (mFld fl_many "many" (mVal 0)) aNil))))) (mRaise "BadRow" ["what", "row"] (aCons (mVal 2) (aCons (mVal 1) aNil))) mNext)
    (mRet (mCall kTuple (aCons (mVal 1) aNil))))
def m_need_chips : FM := mDef 3 b_need_chips
theorem sc_need_chips : FnScope ["web", "chips", "what"] ["web", "chips", "what"] (defScope s8) := ⟨rfl, rfl, rfl, by decide +kernel, rfl, by decide +kernel, by decide +kernel⟩
theorem fn_need_chips {C : Ctx} {P : Program} {wd : World} {base : Heap} (h : FX C.K C.mg) (hx : C.ex = none) : Fn C P wd base true "need_chips" 3 3 m_need_chips := by
  obtain ⟨fd, F⟩ := h.says.def_ 8 (d := d8) rfl
  exact fn_of (N := ["web", "chips", "what"]) (m := b_need_chips) F (h.glo 8) sc_need_chips hx (F.bindsN (ps := ["web", "chips", "what"]) fun _ _ _ _ _ _ us hl => match us, hl with | [_, _, _], _ => rfl) fun cdv A outer s H E w =>
    (sm_cons (sm_if (tm_not (tm_val (pm_call (fn_is_indexes (C := C) h w.cold) w (by decide) (fun _ => rfl) (am_cons (pm_val 1) (am_cons (pm_fld rfl (fld_many h) (pb (pm_val 0))) am_nil)) (al (al a0))))) (sm_one (sm_raise w rfl (exD_BadRow h) (by decide) (am_cons (pm_val 2) (am_cons (pm_val 1) am_nil)))) sm_nil)
    (sm_one (sm_ret (pm_tuple (h.free 69) (pb (pm_val 1))))))
def b_fired_by : SM :=
    (mSeq (mSetO (mFCall kList (aCons (mVal 1) aNil)) 3)
    (mSeq (mFor (mIt (mFld fl_ties "ties" (mVal 0))) (gTp (gsCons (gNm 4) (gsCons (gNm 5) gsNil)))
    (mSeq (mAugIx (fun i j => i - j) 3 (mVal 4) (mOp kSub (mOp kIx (mVal 2) (mVal 4)) (mOp kIx (mVal 2) (mVal 5))))
    (mAugIx (fun i j => i - j) 3 (mVal 5) (mOp kSub (mOp kIx (mVal 2) (mVal 5)) (mOp kIx (mVal 2) (mVal 4))))))
    (mRet (mCall kTuple (aCons (mOwn 3) aNil)))))
def m_fired_by : FM := mDef 6 b_fired_by
theorem sc_fired_by : FnScope ["web", "chips", "row", "found", "a", "b"] ["web", "chips", "row"] (defScope s9) := ⟨rfl, rfl, rfl, by decide +kernel, rfl, by decide +kernel, by decide +kernel⟩
theorem fn_fired_by {C : Ctx} {P : Program} {wd : World} {base : Heap} (h : FX C.K C.mg) (hx : C.ex = none) : Fn C P wd base true "fired_by" 1 3 m_fired_by := by
  obtain ⟨fd, F⟩ := h.says.def_ 9 (d := d9) rfl
  exact fn_of (N := ["web", "chips", "row", "found", "a", "b"]) (m := b_fired_by) F (h.glo 9) sc_fired_by hx (F.bindsN (ps := ["web", "chips", "row"]) fun _ _ _ _ _ _ us hl => match us, hl with | [_, _, _], _ => rfl) fun cdv A outer s H E w =>
    (sm_cons (sm_setO 3 sc_fired_by.nd (pm_list (h.free 62) (pb (pm_val 1))))
    (sm_cons (sm_for (passes_of rfl) rfl (im_seq (pm_fld rfl (fld_ties h) (pb (pm_val 0)))) (gm_tup rfl (gms_cons (gm_name 4 sc_fired_by.nd) (gms_cons (gm_name 5 sc_fired_by.nd) gms_nil)) (gl (gl gl0)))
    (sm_cons (sm_augIx 3 ip_sub (pb (pm_val 4)) (pm_sub (pb (pm_ix (pb (pm_val 2)) (pb (pm_val 4)))) (pb (pm_ix (pb (pm_val 2)) (pb (pm_val 5))))))
    (sm_one (sm_augIx 3 ip_sub (pb (pm_val 5)) (pm_sub (pb (pm_ix (pb (pm_val 2)) (pb (pm_val 5)))) (pb (pm_ix (pb (pm_val 2)) (pb (pm_val 4)))))))))
    (sm_one (sm_ret (pm_tuple (h.free 69) (pm_own 3))))))
def b_fired : SM :=
    (mSeq (mDrop (mFn m_need_chip_web (aCons (mVal 0) aNil)))
    (mSeq (mSet (mFn m_need_chips (aCons (mVal 0) (aCons (mVal 1) (aCons (mC (.str "chips")) aNil)))) (gNm 3))
    (mRet (mFn m_fired_by (aCons (mVal 0) (aCons (mVal 3) (aCons (mFn m_need_chips (aCons (mVal 0) (aCons (mVal 2) (aCons (mC (.str "row")) aNil)))) aNil)))))))
def m_fired : FM := mDef 4 b_fired
theorem sc_fired : FnScope ["web", "chips", "row", "told"] ["web", "chips", "row"] (defScope s10) := ⟨rfl, rfl, rfl, by decide +kernel, rfl, by decide +kernel, by decide +kernel⟩
theorem fn_fired {C : Ctx} {P : Program} {wd : World} {base : Heap} (h : FX C.K C.mg) (hx : C.ex = none) : Fn C P wd base true "fired" 4 3 m_fired := by
  obtain ⟨fd, F⟩ := h.says.def_ 10 (d := d10) rfl
  exact fn_of (N := ["web", "chips", "row", "told"]) (m := b_fired) F (h.glo 10) sc_fired hx (F.bindsN (ps := ["web", "chips", "row"]) fun _ _ _ _ _ _ us hl => match us, hl with | [_, _, _], _ => rfl) fun cdv A outer s H E w =>
    (sm_cons (sm_expr (pb (pm_call (fn_need_chip_web (C := C) h w.cold) w (by decide) (fun _ => rfl) (am_cons (pm_val 0) am_nil) (al a0))))
    (sm_cons (sm_set 3 sc_fired.nd (pm_call (fn_need_chips (C := C) h w.cold) w (by decide) (fun _ => rfl) (am_cons (pm_val 0) (am_cons (pm_val 1) (am_cons pm_str am_nil))) (al (al (al a0)))))
    (sm_one (sm_ret (pm_call (fn_fired_by (C := C) h w.cold) w (by decide) (fun _ => rfl) (am_cons (pm_val 0) (am_cons (pm_val 3) (am_cons (pm_call (fn_need_chips (C := C) h w.cold) w (by decide) (fun _ => rfl) (am_cons (pm_val 0) (am_cons (pm_val 2) (am_cons pm_str am_nil))) (al (al (al a0)))) am_nil))) (al (al (al a0))))))))
def b_degrees_in : SM :=
    (mSeq (mSetO (mFOp kRep (mFr (mLst (aCons (mC (.int 0)) aNil))) (mFld fl_many "many" (mVal 0))) 1)
    (mSeq (mFor (mIt (mFld fl_ties "ties" (mVal 0))) (gTp (gsCons (gNm 2) (gsCons (gNm 3) gsNil)))
    (mSeq (mAugIx (fun i j => i + j) 1 (mVal 2) (mC (.int 1)))
    (mAugIx (fun i j => i + j) 1 (mVal 3) (mC (.int 1)))))
    (mFrzS 1 (mRet (mVal 1)))))
def m_degrees_in : FM := mDef 4 b_degrees_in
theorem sc_degrees_in : FnScope ["web", "found", "a", "b"] ["web"] (defScope s11) := ⟨rfl, rfl, rfl, by decide +kernel, rfl, by decide +kernel, by decide +kernel⟩
theorem fn_degrees_in {C : Ctx} {P : Program} {wd : World} {base : Heap} (h : FX C.K C.mg) (hx : C.ex = none) : Fn C P wd base true "degrees_in" 1 1 m_degrees_in := by
  obtain ⟨fd, F⟩ := h.says.def_ 11 (d := d11) rfl
  exact fn_of (N := ["web", "found", "a", "b"]) (m := b_degrees_in) F (h.glo 11) sc_degrees_in hx (F.bindsN (ps := ["web"]) fun _ _ _ _ _ _ us hl => match us, hl with | [_], _ => rfl) fun cdv A outer s H E w =>
    (sm_cons (sm_setO 1 sc_degrees_in.nd (pm_rep (pfb (pm_lst (am_cons pm_int am_nil))) (pb (pm_fld rfl (fld_many h) (pb (pm_val 0))))))
    (sm_cons (sm_for (passes_of rfl) rfl (im_seq (pm_fld rfl (fld_ties h) (pb (pm_val 0)))) (gm_tup rfl (gms_cons (gm_name 2 sc_degrees_in.nd) (gms_cons (gm_name 3 sc_degrees_in.nd) gms_nil)) (gl (gl gl0)))
    (sm_cons (sm_augIx 1 ip_add (pb (pm_val 2)) pm_int)
    (sm_one (sm_augIx 1 ip_add (pb (pm_val 3)) pm_int))))
    (sm_one (s_frz 1 (sm_ret (pm_val 1))))))
def b_canonical : SM :=
    (mSeq (mDrop (mFn m_need_chip_web (aCons (mVal 0) aNil)))
    (mRet (mCall kTuple (aCons (mFr (mComp (mIt (mFn m_degrees_in (aCons (mVal 0) aNil))) [1] (gNm 1) tmYes (mOp kSub (mVal 1) (mC (.int 2))))) aNil))))
def m_canonical : FM := mDef 2 b_canonical
theorem sc_canonical : FnScope ["web", "one"] ["web"] (defScope s12) := ⟨rfl, rfl, rfl, by decide +kernel, rfl, by decide +kernel, by decide +kernel⟩
theorem fn_canonical {C : Ctx} {P : Program} {wd : World} {base : Heap} (h : FX C.K C.mg) (hx : C.ex = none) : Fn C P wd base true "canonical" 4 1 m_canonical := by
  obtain ⟨fd, F⟩ := h.says.def_ 12 (d := d12) rfl
  exact fn_of (N := ["web", "one"]) (m := b_canonical) F (h.glo 12) sc_canonical hx (F.bindsN (ps := ["web"]) fun _ _ _ _ _ _ us hl => match us, hl with | [_], _ => rfl) fun cdv A outer s H E w =>
    (sm_cons (sm_expr (pb (pm_call (fn_need_chip_web (C := C) h w.cold) w (by decide) (fun _ => rfl) (am_cons (pm_val 0) am_nil) (al a0))))
    (sm_one (sm_ret (pm_tuple (h.free 69) (pfb (pm_lc rfl sc_canonical.nd (im_seqB (pb (pm_call (fn_degrees_in (C := C) h w.cold) w (by decide) (fun _ => rfl) (am_cons (pm_val 0) am_nil) (al a0)))) (own := [("one", 1)]) (blk_of (by kernel_rfl)) (fun s H Cb cl fp => (gm_name 1 sc_canonical.nd)) (fun s H Cb cl fp => tms_nil) (fun s H Cb cl fp => (pm_sub (pb (pm_val 1)) (pb pm_int)))))))))
def b__law_pen : SM :=
    (mSeq (mSet (mC (.int 0)) (gNm 1))
    (mSeq (mFor (mItS (mVal 0)) (gNm 2)
    (mSet (mOp kMod (mCall kInt1 (aCons (mOp kAdd (mOp kMul (mVal 1) (mC (.int 47))) (mVal 2)) aNil)) (mC (.int 1000000007))) (gNm 1)))
    (mRet (mDisp [(.inr "cells", (mFr (mFCall kListS (aCons (mVal 0) aNil)))), (.inr "at", (mC (.int 0))), (.inr "digits", (mC (.int 0))), (.inr "count", (mC (.int 0))), (.inr "fold", (mVal 1))]))))
def m__law_pen : FM := mDef 3 b__law_pen
theorem sc__law_pen : FnScope ["script", "fold", "cell"] ["script"] (defScope s13) := ⟨rfl, rfl, rfl, by decide +kernel, rfl, by decide +kernel, by decide +kernel⟩
theorem fn__law_pen {C : Ctx} {P : Program} {wd : World} {base : Heap} (h : FX C.K C.mg) (hx : C.ex = none) : Fn C P wd base true "_law_pen" 1 1 m__law_pen := by
  obtain ⟨fd, F⟩ := h.says.def_ 13 (d := d13) rfl
  exact fn_of (N := ["script", "fold", "cell"]) (m := b__law_pen) F (h.glo 13) sc__law_pen hx (F.bindsN (ps := ["script"]) fun _ _ _ _ _ _ us hl => match us, hl with | [_], _ => rfl) fun cdv A outer s H E w =>
    (sm_cons (sm_set 1 sc__law_pen.nd pm_int)
    (sm_cons (sm_for (passes_of rfl) rfl (im_scr rfl (pm_val 0)) (gm_name 2 sc__law_pen.nd)
    (sm_one (sm_set 1 sc__law_pen.nd (pm_mod (pb (pm_int1 (h.free 59) (pb (pm_add (pb (pm_mul (pb (pm_val 1)) (pb pm_int))) (pb (pm_val 2)))))) (pb pm_int)))))
    (sm_one (sm_ret (pm_disp (ms := [(.inr "cells", (mFr (mFCall kListS (aCons (mVal 0) aNil)))), (.inr "at", (mC (.int 0))), (.inr "digits", (mC (.int 0))), (.inr "count", (mC (.int 0))), (.inr "fold", (mVal 1))]) (pps_cons pe_str (pf (pm_listS rfl (h.free 62) (bm_cons (pb (pm_val 0)) bm_nil))) (pps_cons pe_str pm_int (pps_cons pe_str pm_int (pps_cons pe_str pm_int (pps_cons pe_str (pm_val 1) pps_nil))))))))))
def b__law_draw : SM :=
    (mSeq (mPenPut 0 (.inr "count") (mOp kAdd (mPenGet (.inr "count") (mVal 0)) (mC (.int 1))))
    (mSeq (mIfS (mTAnd (mT (mOp kEq (mPenGet (.inr "digits") (mVal 0)) (mC (.int 0)))) (mT (mOp kLt (mPenGet (.inr "at") (mVal 0)) (mCall kLen (aCons (mPenGet (.inr "cells") (mVal 0)) aNil))))) (mSeq (mSet (mOp kIx (mPenGet (.inr "cells") (mVal 0)) (mPenGet (.inr "at") (mVal 0))) (gNm 2))
    (mSeq (mPenPut 0 (.inr "at") (mOp kAdd (mPenGet (.inr "at") (mVal 0)) (mC (.int 1))))
    (mIfS (mT (mOp kGe (mVal 2) (mOp kPow (mC (.int 10)) (mC (.int 18))))) (mPenPut 0 (.inr "digits") (mOp kSub (mVal 2) (mOp kPow (mC (.int 10)) (mC (.int 18))))) (mPenPut 0 (.inr "fold") (mOp kMod (mCall kInt1 (aCons (mOp kAdd (mOp kMul (mPenGet (.inr "fold") (mVal 0)) (mC (.int 69069))) (mVal 2)) aNil)) (mC (.int 2147483587))))))) mNext)
    (mSeq (mIfS (mT (mOp kGt (mPenGet (.inr "digits") (mVal 0)) (mC (.int 0)))) (mSeq (mSet (mOp kMod (mCall kInt1 (aCons (mPenGet (.inr "digits") (mVal 0)) aNil)) (mVal 1)) (gNm 3))
    (mSeq (mPenPut 0 (.inr "digits") (mOp kDiv (mPenGet (.inr "digits") (mVal 0)) (mVal 1)))
    (mRet (mVal 3)))) mNext)
    (mSeq (mSet (mOp kMod (mCall kInt1 (aCons (mOp kAdd (mOp kAdd (mOp kMul (mPenGet (.inr "fold") (mVal 0)) (mC (.int 48271))) (mOp kMul (mPenGet (.inr "count") (mVal 0)) (mC (.int 7919)))) (mC (.int 13))) aNil)) (mC (.int 2147483647))) (gNm 4))
    (mSeq (mSet (mOp kMod (mCall kInt1 (aCons (mOp kAdd (mOp kAdd (mOp kMul (mVal 4) (mVal 4)) (mOp kMul (mC (.int 31)) (mVal 4))) (mPenGet (.inr "count") (mVal 0))) aNil)) (mC (.int 2147483629))) (gNm 4))
    (mSeq (mPenPut 0 (.inr "fold") (mOp kMod (mCall kInt1 (aCons (mOp kAdd (mOp kMul (mVal 4) (mC (.int 16807))) (mC (.int 7))) aNil)) (mC (.int 2147483647))))
    (mRet (mOp kMod (mCall kInt1 (aCons (mOp kDiv (mVal 4) (mC (.int 64))) aNil)) (mVal 1)))))))))
def m__law_draw : FM := mDef 5 b__law_draw
theorem sc__law_draw : FnScope ["pen", "many", "cell", "digit", "blend"] ["pen", "many"] (defScope s14) := ⟨rfl, rfl, rfl, by decide +kernel, rfl, by decide +kernel, by decide +kernel⟩
theorem fn__law_draw {C : Ctx} {P : Program} {wd : World} {base : Heap} (h : FX C.K C.mg) (hx : C.ex = none) : Fn C P wd base true "_law_draw" 1 2 m__law_draw := by
  obtain ⟨fd, F⟩ := h.says.def_ 14 (d := d14) rfl
  exact fn_of (N := ["pen", "many", "cell", "digit", "blend"]) (m := b__law_draw) F (h.glo 14) sc__law_draw hx (F.bindsN (ps := ["pen", "many"]) fun _ _ _ _ _ _ us hl => match us, hl with | [_, _], _ => rfl) fun cdv A outer s H E w =>
    (sm_cons (sm_penPut 0 w.hu (pm_add (pb (pm_penGet w.hu (pm_val 0))) (pb pm_int)))
    (sm_cons (sm_if (wm_and (tm_eq w.hu (pb (pm_penGet w.hu (pm_val 0))) (pb pm_int)) (wm_and1 (tm_lt (pb (pm_penGet w.hu (pm_val 0))) (pb (pm_len (h.free 61) (pb (pm_penGet w.hu (pm_val 0)))))))).pt (sm_cons (sm_set 2 sc__law_draw.nd (pm_ix (pb (pm_penGet w.hu (pm_val 0))) (pb (pm_penGet w.hu (pm_val 0)))))
    (sm_cons (sm_penPut 0 w.hu (pm_add (pb (pm_penGet w.hu (pm_val 0))) (pb pm_int)))
    (sm_one (sm_if (tm_ge (pb (pm_val 2)) (pb (pm_pow (pb pm_int) (pb pm_int)))) (sm_one (sm_penPut 0 w.hu (pm_sub (pb (pm_val 2)) (pb (pm_pow (pb pm_int) (pb pm_int)))))) (sm_one (sm_penPut 0 w.hu (pm_mod (pb (pm_int1 (h.free 59) (pb (pm_add (pb (pm_mul (pb (pm_penGet w.hu (pm_val 0))) (pb pm_int))) (pb (pm_val 2)))))) (pb pm_int)))))))) sm_nil)
    (sm_cons (sm_if (tm_gt (pb (pm_penGet w.hu (pm_val 0))) (pb pm_int)) (sm_cons (sm_set 3 sc__law_draw.nd (pm_mod (pb (pm_int1 (h.free 59) (pb (pm_penGet w.hu (pm_val 0))))) (pb (pm_val 1))))
    (sm_cons (sm_penPut 0 w.hu (pm_div (pb (pm_penGet w.hu (pm_val 0))) (pb (pm_val 1))))
    (sm_one (sm_ret (pm_val 3))))) sm_nil)
    (sm_cons (sm_set 4 sc__law_draw.nd (pm_mod (pb (pm_int1 (h.free 59) (pb (pm_add (pb (pm_add (pb (pm_mul (pb (pm_penGet w.hu (pm_val 0))) (pb pm_int))) (pb (pm_mul (pb (pm_penGet w.hu (pm_val 0))) (pb pm_int))))) (pb pm_int))))) (pb pm_int)))
    (sm_cons (sm_set 4 sc__law_draw.nd (pm_mod (pb (pm_int1 (h.free 59) (pb (pm_add (pb (pm_add (pb (pm_mul (pb (pm_val 4)) (pb (pm_val 4)))) (pb (pm_mul (pb pm_int) (pb (pm_val 4)))))) (pb (pm_penGet w.hu (pm_val 0))))))) (pb pm_int)))
    (sm_cons (sm_penPut 0 w.hu (pm_mod (pb (pm_int1 (h.free 59) (pb (pm_add (pb (pm_mul (pb (pm_val 4)) (pb pm_int))) (pb pm_int))))) (pb pm_int)))
    (sm_one (sm_ret (pm_mod (pb (pm_int1 (h.free 59) (pb (pm_div (pb (pm_val 4)) (pb pm_int))))) (pb (pm_val 1)))))))))))
def b__law_pick : SM :=
    (mRet (mOp kIx (mVal 1) (mFn m__law_draw (aCons (mVal 0) (aCons (mCall kLen (aCons (mVal 1) aNil)) aNil)))))
def m__law_pick : FM := mDef 2 b__law_pick
theorem sc__law_pick : FnScope ["pen", "some"] ["pen", "some"] (defScope s15) := ⟨rfl, rfl, rfl, by decide +kernel, rfl, by decide +kernel, by decide +kernel⟩
theorem fn__law_pick {C : Ctx} {P : Program} {wd : World} {base : Heap} (h : FX C.K C.mg) (hx : C.ex = none) : Fn C P wd base true "_law_pick" 2 2 m__law_pick := by
  obtain ⟨fd, F⟩ := h.says.def_ 15 (d := d15) rfl
  exact fn_of (N := ["pen", "some"]) (m := b__law_pick) F (h.glo 15) sc__law_pick hx (F.bindsN (ps := ["pen", "some"]) fun _ _ _ _ _ _ us hl => match us, hl with | [_, _], _ => rfl) fun cdv A outer s H E w =>
    (sm_one (sm_ret (pm_ix (pb (pm_val 1)) (pb (pm_call (fn__law_draw (C := C) h w.cold) w (by decide) (fun _ => rfl) (am_cons (pm_val 0) (am_cons (pm_len (h.free 61) (pb (pm_val 1))) am_nil)) (al (al a0)))))))
def b__law_shuffled : SM :=
    (mSeq (mPar2 2 3 (sOwn (mFCall kList (aCons (mVal 1) aNil)) (sOwn (mLst aNil) sNil)))
    (mSeq (mFor (mRng1 (mCall kLen (aCons (mVal 1) aNil))) (gNm 4)
    (mAppPop 3 2 (mFn m__law_draw (aCons (mVal 0) (aCons (mCall kLen (aCons (mOwn 2) aNil)) aNil)))))
    (mFrzS 3 (mRet (mVal 3)))))
def m__law_shuffled : FM := mDef 5 b__law_shuffled
theorem sc__law_shuffled : FnScope ["pen", "some", "left", "found", "lap"] ["pen", "some"] (defScope s16) := ⟨rfl, rfl, rfl, by decide +kernel, rfl, by decide +kernel, by decide +kernel⟩
theorem fn__law_shuffled {C : Ctx} {P : Program} {wd : World} {base : Heap} (h : FX C.K C.mg) (hx : C.ex = none) : Fn C P wd base true "_law_shuffled" 2 2 m__law_shuffled := by
  obtain ⟨fd, F⟩ := h.says.def_ 16 (d := d16) rfl
  exact fn_of (N := ["pen", "some", "left", "found", "lap"]) (m := b__law_shuffled) F (h.glo 16) sc__law_shuffled hx (F.bindsN (ps := ["pen", "some"]) fun _ _ _ _ _ _ us hl => match us, hl with | [_, _], _ => rfl) fun cdv A outer s H E w =>
    (sm_cons (sm_par2 2 3 rfl sc__law_shuffled.nd (as_own (pm_list (h.free 62) (pb (pm_val 1))) (as_own (pm_lst am_nil) as_nil)))
    (sm_cons (sm_for (passes_of rfl) rfl (im_range1 (h.free 65) (pb (pm_len (h.free 61) (pb (pm_val 1))))) (gm_name 4 sc__law_shuffled.nd)
    (sm_one (sm_appPop 3 2 (pb (pm_call (fn__law_draw (C := C) h w.cold) w (by decide) (fun _ => rfl) (am_cons (pm_val 0) (am_cons (pm_len (h.free 61) (pm_own 2)) am_nil)) (al (al a0)))))))
    (sm_one (s_frz 3 (sm_ret (pm_val 3))))))
def b__law_is (r : FM) : SM :=
    (mSeq (mIfS (mT (mCall (kIsi objL exL ask) (aCons (mVal 1) (aCons (mC (.ty "tuple")) aNil)))) (mSeq (mIfS (mTOr (mTNot (mT (mCall (kIsi objL exL ask) (aCons (mVal 0) (aCons (mC (.ty "tuple")) aNil))))) (mT (mOp kNe (mCall kLen (aCons (mVal 0) aNil)) (mCall kLen (aCons (mVal 1) aNil))))) (mRet (mC (.bl false))) mNext)
    (mRet (mOp kEqE (mFr (mComp (mRng1 (mCall kLen (aCons (mVal 1) aNil))) [2] (gNm 2) (mTNot (mT (mFn r (aCons (mOp kIx (mVal 0) (mVal 2)) (aCons (mOp kIx (mVal 1) (mVal 2)) aNil))))) (mVal 2))) (mFr (mLst aNil))))) mNext)
    (mSeq (mIfS (mT (mOp kIs (mVal 1) (mC .non))) (mRet (mOp kIs (mVal 0) (mC .non))) mNext)
    (mSeq (mIfS (mT (mOp kIs (mVal 1) (mC (.bl true)))) (mRet (mOp kIs (mVal 0) (mC (.bl true)))) mNext)
    (mSeq (mIfS (mT (mOp kIs (mVal 1) (mC (.bl false)))) (mRet (mOp kIs (mVal 0) (mC (.bl false)))) mNext)
    (mSeq (mIfS (mT (mCall (kIsi objL exL ask) (aCons (mVal 1) (aCons (mC (.ty "str")) aNil)))) (mRet (mV (mTAnd (mT (mCall (kIsi objL exL ask) (aCons (mVal 0) (aCons (mC (.ty "str")) aNil)))) (mT (mOp kEq (mVal 0) (mVal 1)))))) mNext)
    (mRet (mV (mTAnd (mT (mCall (kIsi objL exL ask) (aCons (mVal 0) (aCons (mC (.ty "int")) aNil)))) (mTAnd (mTNot (mT (mCall (kIsi objL exL ask) (aCons (mVal 0) (aCons (mC (.ty "bool")) aNil))))) (mT (mOp kEq (mVal 0) (mVal 1))))))))))))
def m__law_is : Nat → FM
  | 0 => fun _ _ => .bad
  | n + 1 => mDef 3 (b__law_is (m__law_is n))
theorem sc__law_is : FnScope ["told", "due", "at"] ["told", "due"] (defScope s17) := ⟨rfl, rfl, rfl, by decide +kernel, rfl, by decide +kernel, by decide +kernel⟩
theorem fn__law_is {C : Ctx} {P : Program} {wd : World} {base : Heap} (h : FX C.K C.mg) (hx : C.ex = none) (n : Nat) : Fn C P wd base true "_law_is" (1 + n) 2 (m__law_is n) := by
  obtain ⟨fd, F⟩ := h.says.def_ 17 (d := d17) rfl
  have hb := (F.bindsN (ps := ["told", "due"]) fun _ _ _ _ _ _ us hl => match us, hl with | [_, _], _ => rfl)
  induction n with
  | zero => exact fn_bad F (h.glo 17) hb
  | succ n ih =>
    exact fn_of (N := ["told", "due", "at"]) (m := b__law_is (m__law_is n)) (k := 1 + n) F (h.glo 17) sc__law_is hx hb fun cdv A outer s H E w =>
    (sm_cons (sm_if (tm_val (pm_isi rfl (Hot.none w.cold) (ask_ok h) askT_c (clss_ok h) (h.free 60) (bm_cons (pb (pm_val 1)) (bm_cons (pb (pm_gty (h.free 69) (by with_unfolding_all rfl))) bm_nil)))) (sm_cons (sm_if (wm_or (tm_not (tm_val (pm_isi rfl (Hot.none w.cold) (ask_ok h) askT_c (clss_ok h) (h.free 60) (bm_cons (pb (pm_val 0)) (bm_cons (pb (pm_gty (h.free 69) (by with_unfolding_all rfl))) bm_nil))))) (wm_or1 (tm_ne w.hu (pb (pm_len (h.free 61) (pb (pm_val 0)))) (pb (pm_len (h.free 61) (pb (pm_val 1))))))).pt (sm_one (sm_ret pm_bl)) sm_nil)
    (sm_one (sm_ret (pm_eqE w.hu (pfb (pm_lc rfl sc__law_is.nd (im_range1 (h.free 65) (pb (pm_len (h.free 61) (pb (pm_val 1))))) (own := [("at", 2)]) (blk_of (by kernel_rfl)) (fun s H Cb cl fp => (gm_name 2 sc__law_is.nd)) (fun s H Cb cl fp => (tms_one (tm_not (tm_val (pm_call ih (w.blk s H _ Cb cl fp) (Nat.le_refl _) (fun _ => rfl) (am_cons (pm_ix (pb (pm_val 0)) (pb (pm_val 2))) (am_cons (pm_ix (pb (pm_val 1)) (pb (pm_val 2))) am_nil)) (al (al a0))))))) (fun s H Cb cl fp => (pm_val 2)))) (pfb (pm_lst am_nil)))))) sm_nil)
    (sm_cons (sm_if (tm_is (pb (pm_val 1)) (pb pm_non)) (sm_one (sm_ret (pm_is (pb (pm_val 0)) (pb pm_non)))) sm_nil)
    (sm_cons (sm_if (tm_is (pb (pm_val 1)) (pb pm_bl)) (sm_one (sm_ret (pm_is (pb (pm_val 0)) (pb pm_bl)))) sm_nil)
    (sm_cons (sm_if (tm_is (pb (pm_val 1)) (pb pm_bl)) (sm_one (sm_ret (pm_is (pb (pm_val 0)) (pb pm_bl)))) sm_nil)
    (sm_cons (sm_if (tm_val (pm_isi rfl (Hot.none w.cold) (ask_ok h) askT_c (clss_ok h) (h.free 60) (bm_cons (pb (pm_val 1)) (bm_cons (pb (pm_gty (h.free 67) (by with_unfolding_all rfl))) bm_nil)))) (sm_one (sm_ret (vm_and (vm (pm_isi rfl (Hot.none w.cold) (ask_ok h) askT_c (clss_ok h) (h.free 60) (bm_cons (pb (pm_val 0)) (bm_cons (pb (pm_gty (h.free 67) (by with_unfolding_all rfl))) bm_nil)))) (vm_one (vm (pm_eq w.hu (pb (pm_val 0)) (pb (pm_val 1)))))))) sm_nil)
    (sm_one (sm_ret (vm_and (vm (pm_isi rfl (Hot.none w.cold) (ask_ok h) askT_c (clss_ok h) (h.free 60) (bm_cons (pb (pm_val 0)) (bm_cons (pb (pm_gty (h.free 59) (by with_unfolding_all rfl))) bm_nil)))) (vm_and (vm_not (vm (pm_isi rfl (Hot.none w.cold) (ask_ok h) askT_c (clss_ok h) (h.free 60) (bm_cons (pb (pm_val 0)) (bm_cons (pb (pm_gty (h.free 58) (by with_unfolding_all rfl))) bm_nil))))) (vm_one (vm (pm_eq w.hu (pb (pm_val 0)) (pb (pm_val 1))))))))))))))
def b__law_odd : SM :=
    (mRet (mFn m__law_pick (aCons (mVal 0) (aCons (mFr (mLst (aCons (mC .non) (aCons (mC (.bl true)) (aCons (mC (.bl false)) (aCons (mC (.str "1")) (aCons (mC (.str "")) (aCons (mTup (aCons (mC (.int 1)) (aCons (mC (.int 1)) aNil))) (aCons (mTup (aCons (mC (.int 2)) (aCons (mC (.int 4)) aNil))) (aCons (mTup (aCons (mC (.int 1)) (aCons (mC (.int 0)) aNil))) (aCons (mTup (aCons (mC (.int 1)) (aCons (mNeg (mC (.int 2))) aNil))) (aCons (mFr (mLst (aCons (mC (.int 1)) (aCons (mC (.int 2)) aNil)))) (aCons (mTup (aCons (mC (.int 1)) (aCons (mC (.int 2)) (aCons (mC (.int 3)) aNil)))) (aCons (mTup (aCons (mC (.bl true)) (aCons (mC (.int 2)) aNil))) (aCons (mTup aNil) (aCons (mTup (aCons (mC (.int 0)) (aCons (mC (.int 3)) aNil))) (aCons (mC (.dct [])) aNil))))))))))))))))) aNil))))
def m__law_odd : FM := mDef 1 b__law_odd
theorem sc__law_odd : FnScope ["pen"] ["pen"] (defScope s18) := ⟨rfl, rfl, rfl, by decide +kernel, rfl, by decide +kernel, by decide +kernel⟩
theorem fn__law_odd {C : Ctx} {P : Program} {wd : World} {base : Heap} (h : FX C.K C.mg) (hx : C.ex = none) : Fn C P wd base true "_law_odd" 3 1 m__law_odd := by
  obtain ⟨fd, F⟩ := h.says.def_ 18 (d := d18) rfl
  exact fn_of (N := ["pen"]) (m := b__law_odd) F (h.glo 18) sc__law_odd hx (F.bindsN (ps := ["pen"]) fun _ _ _ _ _ _ us hl => match us, hl with | [_], _ => rfl) fun cdv A outer s H E w =>
    (sm_one (sm_ret (pm_call (fn__law_pick (C := C) h w.cold) w (by decide) (fun _ => rfl) (am_cons (pm_val 0) (am_cons (pf (pm_lst (am_cons pm_non (am_cons pm_bl (am_cons pm_bl (am_cons pm_str (am_cons pm_str (am_cons (pm_tup (am_cons pm_int (am_cons pm_int am_nil))) (am_cons (pm_tup (am_cons pm_int (am_cons pm_int am_nil))) (am_cons (pm_tup (am_cons pm_int (am_cons pm_int am_nil))) (am_cons (pm_tup (am_cons pm_int (am_cons (pm_neg (pb pm_int)) am_nil))) (am_cons (pf (pm_lst (am_cons pm_int (am_cons pm_int am_nil)))) (am_cons (pm_tup (am_cons pm_int (am_cons pm_int (am_cons pm_int am_nil)))) (am_cons (pm_tup (am_cons pm_bl (am_cons pm_int am_nil))) (am_cons (pm_tup am_nil) (am_cons (pm_tup (am_cons pm_int (am_cons pm_int am_nil))) (am_cons pm_dict0 am_nil))))))))))))))))) am_nil)) (al (al a0)))))
def b__law_bent_row : SM :=
    (mSeq (mSet (mFn m__law_draw (aCons (mVal 0) (aCons (mC (.int 4)) aNil))) (gNm 2))
    (mSeq (mIfS (mTAnd (mT (mOp kEq (mVal 2) (mC (.int 0)))) (mT (mOp kGt (mCall kLen (aCons (mVal 1) aNil)) (mC (.int 0))))) (mRet (mSl (mVal 1) oNone (oSome (mNeg (mC (.int 1)))))) mNext)
    (mSeq (mIfS (mT (mOp kEq (mVal 2) (mC (.int 1)))) (mRet (mOp kAdd (mVal 1) (mTup (aCons (mFn m__law_draw (aCons (mVal 0) (aCons (mC (.int 3)) aNil))) aNil)))) mNext)
    (mSeq (mIfS (mTAnd (mT (mOp kEq (mVal 2) (mC (.int 2)))) (mT (mOp kGt (mCall kLen (aCons (mVal 1) aNil)) (mC (.int 0))))) (mSeq (mSet (mFn m__law_draw (aCons (mVal 0) (aCons (mCall kLen (aCons (mVal 1) aNil)) aNil))) (gNm 3))
    (mRet (mOp kAdd (mOp kAdd (mSl (mVal 1) oNone (oSome (mVal 3))) (mTup (aCons (mFn m__law_odd (aCons (mVal 0) aNil)) aNil))) (mSl (mVal 1) (oSome (mOp kAdd (mVal 3) (mC (.int 1)))) oNone)))) mNext)
    (mRet (mFn m__law_pick (aCons (mVal 0) (aCons (mFr (mLst (aCons (mC .non) (aCons (mC (.int 3)) (aCons (mC (.str "row")) (aCons (mC (.bl true)) (aCons (mC (.dct [])) aNil))))))) aNil))))))))
def m__law_bent_row : FM := mDef 4 b__law_bent_row
theorem sc__law_bent_row : FnScope ["pen", "row", "way", "at"] ["pen", "row"] (defScope s19) := ⟨rfl, rfl, rfl, by decide +kernel, rfl, by decide +kernel, by decide +kernel⟩
theorem fn__law_bent_row {C : Ctx} {P : Program} {wd : World} {base : Heap} (h : FX C.K C.mg) (hx : C.ex = none) : Fn C P wd base true "_law_bent_row" 4 2 m__law_bent_row := by
  obtain ⟨fd, F⟩ := h.says.def_ 19 (d := d19) rfl
  exact fn_of (N := ["pen", "row", "way", "at"]) (m := b__law_bent_row) F (h.glo 19) sc__law_bent_row hx (F.bindsN (ps := ["pen", "row"]) fun _ _ _ _ _ _ us hl => match us, hl with | [_, _], _ => rfl) fun cdv A outer s H E w =>
    (sm_cons (sm_set 2 sc__law_bent_row.nd (pm_call (fn__law_draw (C := C) h w.cold) w (by decide) (fun _ => rfl) (am_cons (pm_val 0) (am_cons pm_int am_nil)) (al (al a0))))
    (sm_cons (sm_if (wm_and (tm_eq w.hu (pb (pm_val 2)) (pb pm_int)) (wm_and1 (tm_gt (pb (pm_len (h.free 61) (pb (pm_val 1)))) (pb pm_int)))).pt (sm_one (sm_ret (pm_sl (pb (pm_val 1)) om_none (om_some (pb (pm_neg (pb pm_int))))))) sm_nil)
    (sm_cons (sm_if (tm_eq w.hu (pb (pm_val 2)) (pb pm_int)) (sm_one (sm_ret (pm_add (pb (pm_val 1)) (pb (pm_tup (am_cons (pm_call (fn__law_draw (C := C) h w.cold) w (by decide) (fun _ => rfl) (am_cons (pm_val 0) (am_cons pm_int am_nil)) (al (al a0))) am_nil)))))) sm_nil)
    (sm_cons (sm_if (wm_and (tm_eq w.hu (pb (pm_val 2)) (pb pm_int)) (wm_and1 (tm_gt (pb (pm_len (h.free 61) (pb (pm_val 1)))) (pb pm_int)))).pt (sm_cons (sm_set 3 sc__law_bent_row.nd (pm_call (fn__law_draw (C := C) h w.cold) w (by decide) (fun _ => rfl) (am_cons (pm_val 0) (am_cons (pm_len (h.free 61) (pb (pm_val 1))) am_nil)) (al (al a0))))
    (sm_one (sm_ret (pm_add (pb (pm_add (pb (pm_sl (pb (pm_val 1)) om_none (om_some (pb (pm_val 3))))) (pb (pm_tup (am_cons (pm_call (fn__law_odd (C := C) h w.cold) w (by decide) (fun _ => rfl) (am_cons (pm_val 0) am_nil) (al a0)) am_nil))))) (pb (pm_sl (pb (pm_val 1)) (om_some (pb (pm_add (pb (pm_val 3)) (pb pm_int)))) om_none)))))) sm_nil)
    (sm_one (sm_ret (pm_call (fn__law_pick (C := C) h w.cold) w (by decide) (fun _ => rfl) (am_cons (pm_val 0) (am_cons (pf (pm_lst (am_cons pm_non (am_cons pm_int (am_cons pm_str (am_cons pm_bl (am_cons pm_dict0 am_nil))))))) am_nil)) (al (al a0)))))))))
def b__law_more_kinds : SM :=
    (mSeq (mSetO (mLst aNil) 1)
    (mSeq (mIfS (mT (mCall (kIsi objL exL ask) (aCons (mVal 0) (aCons (mC (.fn "NoName")) aNil)))) (mApp 1 (mTup (aCons (mC (.str "noname")) (aCons (mCall kRepr (aCons (mExf exL "name" (mVal 0)) aNil)) aNil)))) mNext)
    (mSeq (mIfS (mT (mCall (kIsi objL exL ask) (aCons (mVal 0) (aCons (mC (.fn "TakenName")) aNil)))) (mApp 1 (mTup (aCons (mC (.str "taken")) (aCons (mCall kRepr (aCons (mExf exL "name" (mVal 0)) aNil)) aNil)))) mNext)
    (mSeq (mIfS (mT (mCall (kIsi objL exL ask) (aCons (mVal 0) (aCons (mC (.fn "Unlike")) aNil)))) (mApp 1 (mTup (aCons (mC (.str "unlike")) (aCons (mExf exL "what" (mVal 0)) aNil)))) mNext)
    (mSeq (mIfS (mT (mCall (kIsi objL exL ask) (aCons (mVal 0) (aCons (mC (.fn "NotThere")) aNil)))) (mApp 1 (mTup (aCons (mC (.str "notthere")) (aCons (mExf exL "paper" (mVal 0)) aNil)))) mNext)
    (mSeq (mIfS (mT (mCall (kIsi objL exL ask) (aCons (mVal 0) (aCons (mC (.fn "TooMany")) aNil)))) (mApp 1 (mTup (aCons (mC (.str "many")) (aCons (mExf exL "what" (mVal 0)) (aCons (mExf exL "many" (mVal 0)) (aCons (mExf exL "limit" (mVal 0)) aNil)))))) mNext)
    (mSeq (mIfS (mT (mCall (kIsi objL exL ask) (aCons (mVal 0) (aCons (mC (.fn "NotKept")) aNil)))) (mApp 1 (mTup (aCons (mC (.str "kept")) (aCons (mExf exL "promise" (mVal 0)) (aCons (mExf exL "witness" (mVal 0)) aNil))))) mNext)
    (mSeq (mIfS (mT (mCall (kIsi objL exL ask) (aCons (mVal 0) (aCons (mC (.fn "NothingToUndo")) aNil)))) (mApp 1 (mTup (aCons (mC (.str "undo")) aNil))) mNext)
    (mSeq (mIfS (mT (mCall (kIsi objL exL ask) (aCons (mVal 0) (aCons (mC (.fn "NothingToRedo")) aNil)))) (mApp 1 (mTup (aCons (mC (.str "redo")) aNil))) mNext)
    (mFrzS 1 (mRet (mVal 1))))))))))))
def m__law_more_kinds : FM := mDefQ 2 b__law_more_kinds
theorem sc__law_more_kinds : FnScope ["e", "found"] ["e"] (defScope s22) := ⟨rfl, rfl, rfl, by decide +kernel, rfl, by decide +kernel, by decide +kernel⟩
theorem fx__law_more_kinds {C : Ctx} {P : Program} {wd : World} {base : Heap} (h : FX C.K C.mg) : FnX C P wd base "_law_more_kinds" 1 1 m__law_more_kinds := by
  obtain ⟨fd, F⟩ := h.says.def_ 22 (d := d22) rfl
  exact fnX_of (N := ["e", "found"]) (m := b__law_more_kinds) F (h.glo 22) sc__law_more_kinds (F.bindsN (ps := ["e"]) fun _ _ _ _ _ _ us hl => match us, hl with | [_], _ => rfl) fun cdv A outer s H E p w =>
    (sm_cons (sm_setO 1 sc__law_more_kinds.nd (pm_lst am_nil))
    (sm_cons (sm_if (tm_val (pm_isi rfl w.hot (ask_ok h) askT_c (clss_ok h) (h.free 60) (bm_cons (pb (pm_val 0)) (bm_cons (pb (pm_gfn rfl (h.glo 42))) bm_nil)))) (sm_one (sm_app 1 (pm_tup (am_cons pm_str (am_cons (pm_repr w.hu w.gd (h.free 66) (bm_cons (pb (pm_exf rfl w.hot (clss_ok h) (noat_name h) (pm_val 0))) bm_nil)) am_nil))))) sm_nil)
    (sm_cons (sm_if (tm_val (pm_isi rfl w.hot (ask_ok h) askT_c (clss_ok h) (h.free 60) (bm_cons (pb (pm_val 0)) (bm_cons (pb (pm_gfn rfl (h.glo 43))) bm_nil)))) (sm_one (sm_app 1 (pm_tup (am_cons pm_str (am_cons (pm_repr w.hu w.gd (h.free 66) (bm_cons (pb (pm_exf rfl w.hot (clss_ok h) (noat_name h) (pm_val 0))) bm_nil)) am_nil))))) sm_nil)
    (sm_cons (sm_if (tm_val (pm_isi rfl w.hot (ask_ok h) askT_c (clss_ok h) (h.free 60) (bm_cons (pb (pm_val 0)) (bm_cons (pb (pm_gfn rfl (h.glo 44))) bm_nil)))) (sm_one (sm_app 1 (pm_tup (am_cons pm_str (am_cons (pm_exf rfl w.hot (clss_ok h) (noat_what h) (pm_val 0)) am_nil))))) sm_nil)
    (sm_cons (sm_if (tm_val (pm_isi rfl w.hot (ask_ok h) askT_c (clss_ok h) (h.free 60) (bm_cons (pb (pm_val 0)) (bm_cons (pb (pm_gfn rfl (h.glo 45))) bm_nil)))) (sm_one (sm_app 1 (pm_tup (am_cons pm_str (am_cons (pm_exf rfl w.hot (clss_ok h) (noat_paper h) (pm_val 0)) am_nil))))) sm_nil)
    (sm_cons (sm_if (tm_val (pm_isi rfl w.hot (ask_ok h) askT_c (clss_ok h) (h.free 60) (bm_cons (pb (pm_val 0)) (bm_cons (pb (pm_gfn rfl (h.glo 46))) bm_nil)))) (sm_one (sm_app 1 (pm_tup (am_cons pm_str (am_cons (pm_exf rfl w.hot (clss_ok h) (noat_what h) (pm_val 0)) (am_cons (pm_exf rfl w.hot (clss_ok h) (noat_many h) (pm_val 0)) (am_cons (pm_exf rfl w.hot (clss_ok h) (noat_limit h) (pm_val 0)) am_nil))))))) sm_nil)
    (sm_cons (sm_if (tm_val (pm_isi rfl w.hot (ask_ok h) askT_c (clss_ok h) (h.free 60) (bm_cons (pb (pm_val 0)) (bm_cons (pb (pm_gfn rfl (h.glo 47))) bm_nil)))) (sm_one (sm_app 1 (pm_tup (am_cons pm_str (am_cons (pm_exf rfl w.hot (clss_ok h) (noat_promise h) (pm_val 0)) (am_cons (pm_exf rfl w.hot (clss_ok h) (noat_witness h) (pm_val 0)) am_nil)))))) sm_nil)
    (sm_cons (sm_if (tm_val (pm_isi rfl w.hot (ask_ok h) askT_c (clss_ok h) (h.free 60) (bm_cons (pb (pm_val 0)) (bm_cons (pb (pm_gfn rfl (h.glo 48))) bm_nil)))) (sm_one (sm_app 1 (pm_tup (am_cons pm_str am_nil)))) sm_nil)
    (sm_cons (sm_if (tm_val (pm_isi rfl w.hot (ask_ok h) askT_c (clss_ok h) (h.free 60) (bm_cons (pb (pm_val 0)) (bm_cons (pb (pm_gfn rfl (h.glo 49))) bm_nil)))) (sm_one (sm_app 1 (pm_tup (am_cons pm_str am_nil)))) sm_nil)
    (sm_one (s_frz 1 (sm_ret (pm_val 1)))))))))))))
def b__law_kinds : SM :=
    (mSeq (mSetO (mLst aNil) 1)
    (mSeq (mIfS (mT (mCall (kIsi objL exL ask) (aCons (mVal 0) (aCons (mC (.fn "BadNumber")) aNil)))) (mApp 1 (mTup (aCons (mC (.str "number")) (aCons (mExf exL "what" (mVal 0)) (aCons (mCall kRepr (aCons (mExf exL "number" (mVal 0)) aNil)) aNil))))) mNext)
    (mSeq (mIfS (mT (mCall (kIsi objL exL ask) (aCons (mVal 0) (aCons (mC (.fn "BadRow")) aNil)))) (mApp 1 (mTup (aCons (mC (.str "row")) (aCons (mExf exL "what" (mVal 0)) (aCons (mCall kRepr (aCons (mExf exL "row" (mVal 0)) aNil)) aNil))))) mNext)
    (mSeq (mIfS (mT (mCall (kIsi objL exL ask) (aCons (mVal 0) (aCons (mC (.fn "BadTable")) aNil)))) (mApp 1 (mTup (aCons (mC (.str "table")) (aCons (mExf exL "what" (mVal 0)) aNil)))) mNext)
    (mSeq (mIfS (mT (mCall (kIsi objL exL ask) (aCons (mVal 0) (aCons (mC (.fn "BadWeb")) aNil)))) (mApp 1 (mTup (aCons (mC (.str "web")) (aCons (mExf exL "what" (mVal 0)) aNil)))) mNext)
    (mSeq (mIfS (mT (mCall (kIsi objL exL ask) (aCons (mVal 0) (aCons (mC (.fn "BadLot")) aNil)))) (mApp 1 (mTup (aCons (mC (.str "lot")) (aCons (mExf exL "what" (mVal 0)) (aCons (mCall kRepr (aCons (mExf exL "lot" (mVal 0)) aNil)) aNil))))) mNext)
    (mSeq (mIfS (mT (mCall (kIsi objL exL ask) (aCons (mVal 0) (aCons (mC (.fn "BadName")) aNil)))) (mApp 1 (mTup (aCons (mC (.str "badname")) (aCons (mCall kRepr (aCons (mExf exL "name" (mVal 0)) aNil)) aNil)))) mNext)
    (mSeq (mIfS (mT (mCall (kIsi objL exL ask) (aCons (mVal 0) (aCons (mC (.fn "BadText")) aNil)))) (mApp 1 (mTup (aCons (mC (.str "text")) (aCons (mExf exL "line" (mVal 0)) (aCons (mExf exL "word" (mVal 0)) aNil))))) mNext)
    (mSeq (mIfS (mT (mCall (kIsi objL exL ask) (aCons (mVal 0) (aCons (mC (.fn "NoPlace")) aNil)))) (mApp 1 (mTup (aCons (mC (.str "place")) (aCons (mExf exL "what" (mVal 0)) (aCons (mCall kRepr (aCons (mExf exL "index" (mVal 0)) aNil)) aNil))))) mNext)
    (mRet (mOp kAdd (mOwn 1) (mFn (fun ds q => (m__law_more_kinds ds q).ne) (aCons (mVal 0) aNil)))))))))))))
def m__law_kinds : FM := mDefQ 2 b__law_kinds
theorem sc__law_kinds : FnScope ["e", "found"] ["e"] (defScope s21) := ⟨rfl, rfl, rfl, by decide +kernel, rfl, by decide +kernel, by decide +kernel⟩
theorem fx__law_kinds {C : Ctx} {P : Program} {wd : World} {base : Heap} (h : FX C.K C.mg) : FnX C P wd base "_law_kinds" 2 1 m__law_kinds := by
  obtain ⟨fd, F⟩ := h.says.def_ 21 (d := d21) rfl
  exact fnX_of (N := ["e", "found"]) (m := b__law_kinds) F (h.glo 21) sc__law_kinds (F.bindsN (ps := ["e"]) fun _ _ _ _ _ _ us hl => match us, hl with | [_], _ => rfl) fun cdv A outer s H E p w =>
    (sm_cons (sm_setO 1 sc__law_kinds.nd (pm_lst am_nil))
    (sm_cons (sm_if (tm_val (pm_isi rfl w.hot (ask_ok h) askT_c (clss_ok h) (h.free 60) (bm_cons (pb (pm_val 0)) (bm_cons (pb (pm_gfn rfl (h.glo 34))) bm_nil)))) (sm_one (sm_app 1 (pm_tup (am_cons pm_str (am_cons (pm_exf rfl w.hot (clss_ok h) (noat_what h) (pm_val 0)) (am_cons (pm_repr w.hu w.gd (h.free 66) (bm_cons (pb (pm_exf rfl w.hot (clss_ok h) (noat_number h) (pm_val 0))) bm_nil)) am_nil)))))) sm_nil)
    (sm_cons (sm_if (tm_val (pm_isi rfl w.hot (ask_ok h) askT_c (clss_ok h) (h.free 60) (bm_cons (pb (pm_val 0)) (bm_cons (pb (pm_gfn rfl (h.glo 35))) bm_nil)))) (sm_one (sm_app 1 (pm_tup (am_cons pm_str (am_cons (pm_exf rfl w.hot (clss_ok h) (noat_what h) (pm_val 0)) (am_cons (pm_repr w.hu w.gd (h.free 66) (bm_cons (pb (pm_exf rfl w.hot (clss_ok h) (noat_row h) (pm_val 0))) bm_nil)) am_nil)))))) sm_nil)
    (sm_cons (sm_if (tm_val (pm_isi rfl w.hot (ask_ok h) askT_c (clss_ok h) (h.free 60) (bm_cons (pb (pm_val 0)) (bm_cons (pb (pm_gfn rfl (h.glo 36))) bm_nil)))) (sm_one (sm_app 1 (pm_tup (am_cons pm_str (am_cons (pm_exf rfl w.hot (clss_ok h) (noat_what h) (pm_val 0)) am_nil))))) sm_nil)
    (sm_cons (sm_if (tm_val (pm_isi rfl w.hot (ask_ok h) askT_c (clss_ok h) (h.free 60) (bm_cons (pb (pm_val 0)) (bm_cons (pb (pm_gfn rfl (h.glo 37))) bm_nil)))) (sm_one (sm_app 1 (pm_tup (am_cons pm_str (am_cons (pm_exf rfl w.hot (clss_ok h) (noat_what h) (pm_val 0)) am_nil))))) sm_nil)
    (sm_cons (sm_if (tm_val (pm_isi rfl w.hot (ask_ok h) askT_c (clss_ok h) (h.free 60) (bm_cons (pb (pm_val 0)) (bm_cons (pb (pm_gfn rfl (h.glo 38))) bm_nil)))) (sm_one (sm_app 1 (pm_tup (am_cons pm_str (am_cons (pm_exf rfl w.hot (clss_ok h) (noat_what h) (pm_val 0)) (am_cons (pm_repr w.hu w.gd (h.free 66) (bm_cons (pb (pm_exf rfl w.hot (clss_ok h) (noat_lot h) (pm_val 0))) bm_nil)) am_nil)))))) sm_nil)
    (sm_cons (sm_if (tm_val (pm_isi rfl w.hot (ask_ok h) askT_c (clss_ok h) (h.free 60) (bm_cons (pb (pm_val 0)) (bm_cons (pb (pm_gfn rfl (h.glo 39))) bm_nil)))) (sm_one (sm_app 1 (pm_tup (am_cons pm_str (am_cons (pm_repr w.hu w.gd (h.free 66) (bm_cons (pb (pm_exf rfl w.hot (clss_ok h) (noat_name h) (pm_val 0))) bm_nil)) am_nil))))) sm_nil)
    (sm_cons (sm_if (tm_val (pm_isi rfl w.hot (ask_ok h) askT_c (clss_ok h) (h.free 60) (bm_cons (pb (pm_val 0)) (bm_cons (pb (pm_gfn rfl (h.glo 40))) bm_nil)))) (sm_one (sm_app 1 (pm_tup (am_cons pm_str (am_cons (pm_exf rfl w.hot (clss_ok h) (noat_line h) (pm_val 0)) (am_cons (pm_exf rfl w.hot (clss_ok h) (noat_word h) (pm_val 0)) am_nil)))))) sm_nil)
    (sm_cons (sm_if (tm_val (pm_isi rfl w.hot (ask_ok h) askT_c (clss_ok h) (h.free 60) (bm_cons (pb (pm_val 0)) (bm_cons (pb (pm_gfn rfl (h.glo 41))) bm_nil)))) (sm_one (sm_app 1 (pm_tup (am_cons pm_str (am_cons (pm_exf rfl w.hot (clss_ok h) (noat_what h) (pm_val 0)) (am_cons (pm_repr w.hu w.gd (h.free 66) (bm_cons (pb (pm_exf rfl w.hot (clss_ok h) (noat_index h) (pm_val 0))) bm_nil)) am_nil)))))) sm_nil)
    (sm_one (sm_ret (pm_add (pm_own 1) (pb (pm_callQ (fx__law_more_kinds (C := C) h) w (by decide) (am_cons (pm_val 0) am_nil) (al a0)))))))))))))))
def b__law_fault : BM := fun cb =>
    (mSeq (mSet (mC .non) (gNm 1))
    (mSeq (mTry exL 2 (mDrop (mClo 0 cb))
    (mSeq (mSet (mFn (fun ds q => (m__law_kinds ds q).ne) (aCons (mVal 2) aNil)) (gNm 1))
    (mSet (mIf (mTAnd (mT (mOp kEq (mCall kLen (aCons (mVal 1) aNil)) (mC (.int 1)))) (mT (mCall (kIsi objL exL ask) (aCons (mVal 2) (aCons (mC (.ty "ValueError")) aNil))))) (mOp kIx (mVal 1) (mC (.int 0))) (mTup (aCons (mC (.str "several")) (aCons (mCall kLen (aCons (mVal 1) aNil)) aNil)))) (gNm 1))))
    (mRet (mVal 1))))
theorem sc__law_fault : FnScope ["call", "found", "e"] ["call"] (defScope s20) := ⟨rfl, rfl, rfl, by decide +kernel, rfl, by decide +kernel, by decide +kernel⟩
theorem lam__law_fault {X : Cx} {C : Ctx} {W : WX} {k j : Nat} {nm : Str} {c T : Addr} {ps : Arguments} {body : Expr} {sc : Scope} {p lpos pos : Pos} {mb : EM} (h : FX C.K C.mg) (hK0 : C.K = X.K) (hM0 : C.mg = X.mg) (w : Wk X C W true j) (hcl : C.cl = none) (hlv : 3 ≤ k) (hkj : k + 2 ≤ j) (nmE : nm = X.env.qual ++ "<lambda>") (TB : LamX.TabB X.base X.mg c T) (hcode : X.env.code = .ref c) (hmT : (T, nm) ∈ C.T) (hu : ∀ p ∈ C.T, p.1 = T → p.2 = nm) (L : LamX.LamS X.env.scope sc) (hdef : defaultsOf ps X.env = ([], []))
    (hbind : ∀ (q : Str) (cl : List (Str × Addr)) (pm cv ctv : Value), bindArgs (PySem.W.kla_fn "<lambda>" q ps body sc cl pm cv ctv) ⟨[], []⟩ = pure [])
    (hbody : ∀ (v : Addr × Addr × Str × Hp) (A : Around) (outer : List PySem.Env) (s : Shared) (H : Hp) (E : XK) (f c2 : Addr), Wk (LamX.lamCx X A outer s H E sc f c2) (C.clos v) (fun cls d _ H => E cls d H) true k → PE (LamX.lamCx X A outer s H E sc f c2) body (rE (C.clos v) (fun cls d _ H => E cls d H) mb))
    (hg : Gl X "_law_fault" := by rfl) : PE X (.Call (.Name "_law_fault" p) [.Lambda ps body sc lpos] [] pos) (rE C W (mLam 3 b__law_fault mb)) := by
  obtain ⟨K, mg, pa, pl, T0, ex, cl, lt⟩ := C
  simp only at hK0 hM0
  subst hK0 hM0
  obtain ⟨fd, F⟩ := h.says.def_ 20 (d := d20) rfl
  exact pm_lam (Ng := ["call", "found", "e"]) w hcl hkj F (h.glo 20) (F.bindsN (ps := ["call"]) fun _ _ _ _ _ _ us hl => match us, hl with | [_], _ => rfl) sc__law_fault rfl (by first | exact Or.inl rfl | exact Or.inr (Or.inl rfl) | exact Or.inr (Or.inr rfl)) (fun cdg s H v cb act w =>
    (sm_cons (sm_set 1 sc__law_fault.nd pm_non)
    (sm_cons (sm_try w sc__law_fault.nd (h.glo 33) (exm_WebError h) (fun W1 pn xe w1 =>
    (sm_one (sm_expr (pb (act _ _ _ _ _ w1.tk)))))
    (fun a oe cls dd pn wH =>
    (sm_cons (sm_set 1 sc__law_fault.nd (pm_callQ (fx__law_kinds (C := (Ctx.clos ⟨X.K, X.mg, pa, pl, T0, ex, cl, lt⟩ v).hot (a, cls, dd)) h) wH (by omega) (am_cons (pm_val 2) am_nil) (al a0)))
    (sm_one (sm_set 1 sc__law_fault.nd (pm_if (wm_and (tm_eq wH.hu (pb (pm_len (h.free 61) (pb (pm_val 1)))) (pb pm_int)) (wm_and1 (tm_val (pm_isi rfl wH.hot (ask_ok h) askT_c (clss_ok h) (h.free 60) (bm_cons (pb (pm_val 2)) (bm_cons (pb (pm_gty (h.free 56) (by with_unfolding_all rfl))) bm_nil)))))).pt (pm_ix (pb (pm_val 1)) (pb pm_int)) (pm_tup (am_cons pm_str (am_cons (pm_len (h.free 61) (pb (pm_val 1))) am_nil)))))))))
    (sm_one (sm_ret (pm_val 1)))))) nmE TB hcode hmT hu L hdef hbind hbody hg
def b__law_tuples : SM :=
    (mSeq (mSet (mFr (mLst (aCons (mTup aNil) aNil))) (gNm 2))
    (mSeq (mFor (mRng1 (mVal 1)) (gNm 3)
    (mSeq (mSetO (mLst aNil) 4)
    (mSeq (mFor (mIt (mVal 2)) (gNm 5)
    (mExtS 4 (mFr (mComp (mIt (mVal 0)) [6] (gNm 6) tmYes (mOp kAdd (mVal 5) (mTup (aCons (mVal 6) aNil)))))))
    (mFrzS 4 (mSet (mVal 4) (gNm 2))))))
    (mRet (mVal 2))))
def m__law_tuples : FM := mDef 7 b__law_tuples
theorem sc__law_tuples : FnScope ["some", "count", "found", "lap", "longer", "told", "one"] ["some", "count"] (defScope s23) := ⟨rfl, rfl, rfl, by decide +kernel, rfl, by decide +kernel, by decide +kernel⟩
theorem fn__law_tuples {C : Ctx} {P : Program} {wd : World} {base : Heap} (h : FX C.K C.mg) (hx : C.ex = none) : Fn C P wd base true "_law_tuples" 1 2 m__law_tuples := by
  obtain ⟨fd, F⟩ := h.says.def_ 23 (d := d23) rfl
  exact fn_of (N := ["some", "count", "found", "lap", "longer", "told", "one"]) (m := b__law_tuples) F (h.glo 23) sc__law_tuples hx (F.bindsN (ps := ["some", "count"]) fun _ _ _ _ _ _ us hl => match us, hl with | [_, _], _ => rfl) fun cdv A outer s H E w =>
    (sm_cons (sm_set 2 sc__law_tuples.nd (pf (pm_lst (am_cons (pm_tup am_nil) am_nil))))
    (sm_cons (sm_for (passes_of rfl) rfl (im_range1 (h.free 65) (pb (pm_val 1))) (gm_name 3 sc__law_tuples.nd)
    (sm_cons (sm_setO 4 sc__law_tuples.nd (pm_lst am_nil))
    (sm_cons (sm_for (passes_of rfl) rfl (im_seq (pm_val 2)) (gm_name 5 sc__law_tuples.nd)
    (sm_one (sm_ext 4 (pfb (pm_lc rfl sc__law_tuples.nd (im_seqB (pb (pm_val 0))) (own := [("one", 6)]) (blk_of (by kernel_rfl)) (fun s H Cb cl fp => (gm_name 6 sc__law_tuples.nd)) (fun s H Cb cl fp => tms_nil) (fun s H Cb cl fp => (pm_add (pb (pm_val 5)) (pb (pm_tup (am_cons (pm_val 6) am_nil))))))))))
    (sm_one (s_frz 4 (sm_set 2 sc__law_tuples.nd (pm_val 4)))))))
    (sm_one (sm_ret (pm_val 2)))))
def b__law_drawn_ties : SM :=
    (mSeq (mSetO (mLst aNil) 3)
    (mSeq (mFor (mRng1 (mIf (mT (mOp kGt (mVal 1) (mC (.int 1)))) (mVal 2) (mC (.int 0)))) (gNm 4)
    (mSeq (mSet (mFn m__law_draw (aCons (mVal 0) (aCons (mOp kSub (mVal 1) (mC (.int 1))) aNil))) (gNm 5))
    (mSeq (mApp 3 (mTup (aCons (mVal 5) (aCons (mCall kInt1 (aCons (mOp kAdd (mOp kAdd (mVal 5) (mC (.int 1))) (mFn m__law_draw (aCons (mVal 0) (aCons (mOp kSub (mOp kSub (mVal 1) (mC (.int 1))) (mVal 5)) aNil)))) aNil)) aNil))))
    (mIfS (mTAnd (mT (mOp kGt (mCall kLen (aCons (mOwn 3) aNil)) (mC (.int 1)))) (mT (mOp kEq (mFn m__law_draw (aCons (mVal 0) (aCons (mC (.int 5)) aNil))) (mC (.int 0))))) (mSetIx 3 (mNeg (mC (.int 1))) (mFn m__law_pick (aCons (mVal 0) (aCons (mSl (mOwn 3) oNone (oSome (mNeg (mC (.int 1))))) aNil)))) mNext))))
    (mRet (mCall kTuple (aCons (mOwn 3) aNil)))))
def m__law_drawn_ties : FM := mDef 6 b__law_drawn_ties
theorem sc__law_drawn_ties : FnScope ["pen", "many", "count", "found", "lap", "a"] ["pen", "many", "count"] (defScope s24) := ⟨rfl, rfl, rfl, by decide +kernel, rfl, by decide +kernel, by decide +kernel⟩
theorem fn__law_drawn_ties {C : Ctx} {P : Program} {wd : World} {base : Heap} (h : FX C.K C.mg) (hx : C.ex = none) : Fn C P wd base true "_law_drawn_ties" 3 3 m__law_drawn_ties := by
  obtain ⟨fd, F⟩ := h.says.def_ 24 (d := d24) rfl
  exact fn_of (N := ["pen", "many", "count", "found", "lap", "a"]) (m := b__law_drawn_ties) F (h.glo 24) sc__law_drawn_ties hx (F.bindsN (ps := ["pen", "many", "count"]) fun _ _ _ _ _ _ us hl => match us, hl with | [_, _, _], _ => rfl) fun cdv A outer s H E w =>
    (sm_cons (sm_setO 3 sc__law_drawn_ties.nd (pm_lst am_nil))
    (sm_cons (sm_for (passes_of rfl) rfl (im_range1 (h.free 65) (pb (pm_if (tm_gt (pb (pm_val 1)) (pb pm_int)) (pm_val 2) pm_int))) (gm_name 4 sc__law_drawn_ties.nd)
    (sm_cons (sm_set 5 sc__law_drawn_ties.nd (pm_call (fn__law_draw (C := C) h w.cold) w (by decide) (fun _ => rfl) (am_cons (pm_val 0) (am_cons (pm_sub (pb (pm_val 1)) (pb pm_int)) am_nil)) (al (al a0))))
    (sm_cons (sm_app 3 (pm_tup (am_cons (pm_val 5) (am_cons (pm_int1 (h.free 59) (pb (pm_add (pb (pm_add (pb (pm_val 5)) (pb pm_int))) (pb (pm_call (fn__law_draw (C := C) h w.cold) w (by decide) (fun _ => rfl) (am_cons (pm_val 0) (am_cons (pm_sub (pb (pm_sub (pb (pm_val 1)) (pb pm_int))) (pb (pm_val 5))) am_nil)) (al (al a0))))))) am_nil))))
    (sm_one (sm_if (wm_and (tm_gt (pb (pm_len (h.free 61) (pm_own 3))) (pb pm_int)) (wm_and1 (tm_eq w.hu (pb (pm_call (fn__law_draw (C := C) h w.cold) w (by decide) (fun _ => rfl) (am_cons (pm_val 0) (am_cons pm_int am_nil)) (al (al a0)))) (pb pm_int)))).pt (sm_one (sm_setIx 3 (pm_call (fn__law_pick (C := C) h w.cold) w (by decide) (fun _ => rfl) (am_cons (pm_val 0) (am_cons (pm_sl (pm_own 3) om_none (om_some (pb (pm_neg (pb pm_int))))) am_nil)) (al (al a0))) (pb (pm_neg (pb pm_int))))) sm_nil)))))
    (sm_one (sm_ret (pm_tuple (h.free 69) (pm_own 3))))))
def b__law_joined_web : SM :=
    (mSeq (mSet (mOp kAdd (mC (.int 1)) (mFn m__law_draw (aCons (mVal 0) (aCons (mVal 1) aNil)))) (gNm 3))
    (mSeq (mSetO (mComp (mRng2 (mC (.int 1)) (mVal 3)) [5] (gNm 5) tmYes (mTup (aCons (mFn m__law_draw (aCons (mVal 0) (aCons (mVal 5) aNil))) (aCons (mVal 5) aNil)))) 4)
    (mSeq (mExtS 4 (mFn m__law_drawn_ties (aCons (mVal 0) (aCons (mVal 3) (aCons (mIf (mT (mOp kGt (mVal 2) (mCall kLen (aCons (mOwn 4) aNil)))) (mFn m__law_draw (aCons (mVal 0) (aCons (mOp kAdd (mOp kSub (mVal 2) (mCall kLen (aCons (mOwn 4) aNil))) (mC (.int 1))) aNil))) (mC (.int 0))) aNil)))))
    (mFrzS 4 (mRet (mTup (aCons (mVal 3) (aCons (mCall kTuple (aCons (mFn m__law_shuffled (aCons (mVal 0) (aCons (mVal 4) aNil))) aNil)) aNil))))))))
def m__law_joined_web : FM := mDef 6 b__law_joined_web
theorem sc__law_joined_web : FnScope ["pen", "nodes", "ties", "many", "found", "k"] ["pen", "nodes", "ties"] (defScope s25) := ⟨rfl, rfl, rfl, by decide +kernel, rfl, by decide +kernel, by decide +kernel⟩
theorem fn__law_joined_web {C : Ctx} {P : Program} {wd : World} {base : Heap} (h : FX C.K C.mg) (hx : C.ex = none) : Fn C P wd base true "_law_joined_web" 4 3 m__law_joined_web := by
  obtain ⟨fd, F⟩ := h.says.def_ 25 (d := d25) rfl
  exact fn_of (N := ["pen", "nodes", "ties", "many", "found", "k"]) (m := b__law_joined_web) F (h.glo 25) sc__law_joined_web hx (F.bindsN (ps := ["pen", "nodes", "ties"]) fun _ _ _ _ _ _ us hl => match us, hl with | [_, _, _], _ => rfl) fun cdv A outer s H E w =>
    (sm_cons (sm_set 3 sc__law_joined_web.nd (pm_add (pb pm_int) (pb (pm_call (fn__law_draw (C := C) h w.cold) w (by decide) (fun _ => rfl) (am_cons (pm_val 0) (am_cons (pm_val 1) am_nil)) (al (al a0))))))
    (sm_cons (sm_setLc 4 rfl sc__law_joined_web.nd (im_range2 (h.free 65) (pb pm_int) (pb (pm_val 3))) (own := [("k", 5)]) (blk_of (by kernel_rfl)) (fun s H Cb cl fp => (gm_name 5 sc__law_joined_web.nd)) (fun s H Cb cl fp => tms_nil) (fun s H Cb cl fp => (pm_tup (am_cons (pm_call (fn__law_draw (C := C) h w.cold) (w.blk s H _ Cb cl fp) (by decide) (fun _ => rfl) (am_cons (pm_val 0) (am_cons (pm_val 5) am_nil)) (al (al a0))) (am_cons (pm_val 5) am_nil)))))
    (sm_cons (sm_ext 4 (pb (pm_call (fn__law_drawn_ties (C := C) h w.cold) w (by decide) (fun _ => rfl) (am_cons (pm_val 0) (am_cons (pm_val 3) (am_cons (pm_if (tm_gt (pb (pm_val 2)) (pb (pm_len (h.free 61) (pm_own 4)))) (pm_call (fn__law_draw (C := C) h w.cold) w (by decide) (fun _ => rfl) (am_cons (pm_val 0) (am_cons (pm_add (pb (pm_sub (pb (pm_val 2)) (pb (pm_len (h.free 61) (pm_own 4))))) (pb pm_int)) am_nil)) (al (al a0))) pm_int) am_nil))) (al (al (al a0))))))
    (sm_one (s_frz 4 (sm_ret (pm_tup (am_cons (pm_val 3) (am_cons (pm_tuple (h.free 69) (pb (pm_call (fn__law_shuffled (C := C) h w.cold) w (by decide) (fun _ => rfl) (am_cons (pm_val 0) (am_cons (pm_val 4) am_nil)) (al (al a0))))) am_nil)))))))))
def b__law_either : SM :=
    (mRet (mIf (mT (mOp kEq (mFn m__law_draw (aCons (mVal 0) (aCons (mC (.int 2)) aNil))) (mC (.int 0)))) (mFr (mFCall kList (aCons (mVal 1) aNil))) (mVal 1)))
def m__law_either : FM := mDef 2 b__law_either
theorem sc__law_either : FnScope ["pen", "row"] ["pen", "row"] (defScope s26) := ⟨rfl, rfl, rfl, by decide +kernel, rfl, by decide +kernel, by decide +kernel⟩
theorem fn__law_either {C : Ctx} {P : Program} {wd : World} {base : Heap} (h : FX C.K C.mg) (hx : C.ex = none) : Fn C P wd base true "_law_either" 2 2 m__law_either := by
  obtain ⟨fd, F⟩ := h.says.def_ 26 (d := d26) rfl
  exact fn_of (N := ["pen", "row"]) (m := b__law_either) F (h.glo 26) sc__law_either hx (F.bindsN (ps := ["pen", "row"]) fun _ _ _ _ _ _ us hl => match us, hl with | [_, _], _ => rfl) fun cdv A outer s H E w =>
    (sm_one (sm_ret (pm_if (tm_eq w.hu (pb (pm_call (fn__law_draw (C := C) h w.cold) w (by decide) (fun _ => rfl) (am_cons (pm_val 0) (am_cons pm_int am_nil)) (al (al a0)))) (pb pm_int)) (pf (pm_list (h.free 62) (pb (pm_val 1)))) (pm_val 1))))
def b__law_chip_web : SM :=
    (mSeq (mSet (mFn m__law_draw (aCons (mVal 0) (aCons (mC (.int 5)) aNil))) (gNm 3))
    (mSeq (mIfS (mT (mOp kEq (mVal 3) (mC (.int 0)))) (mSeq (mSet (mOp kAdd (mC (.int 2)) (mFn m__law_draw (aCons (mVal 0) (aCons (mCall kMin2 (aCons (mC (.int 3)) (aCons (mOp kSub (mVal 1) (mC (.int 1))) aNil))) aNil)))) (gNm 4))
    (mRet (mTup (aCons (mVal 4) (aCons (mCall kTuple (aCons (mFn m__law_shuffled (aCons (mVal 0) (aCons (mFr (mComp (mIt (mFn m__law_tuples (aCons (mFr (mLRg (mRg1 (mVal 4)))) (aCons (mC (.int 2)) aNil)))) [5] (gNm 5) (mT (mOp kLt (mOp kIx (mVal 5) (mC (.int 0))) (mOp kIx (mVal 5) (mC (.int 1))))) (mVal 5))) aNil))) aNil)) aNil))))) mNext)
    (mRet (mFn m__law_joined_web (aCons (mVal 0) (aCons (mVal 1) (aCons (mVal 2) aNil)))))))
def m__law_chip_web : FM := mDef 6 b__law_chip_web
theorem sc__law_chip_web : FnScope ["pen", "nodes", "ties", "way", "many", "pair"] ["pen", "nodes", "ties"] (defScope s27) := ⟨rfl, rfl, rfl, by decide +kernel, rfl, by decide +kernel, by decide +kernel⟩
theorem fn__law_chip_web {C : Ctx} {P : Program} {wd : World} {base : Heap} (h : FX C.K C.mg) (hx : C.ex = none) : Fn C P wd base true "_law_chip_web" 5 3 m__law_chip_web := by
  obtain ⟨fd, F⟩ := h.says.def_ 27 (d := d27) rfl
  exact fn_of (N := ["pen", "nodes", "ties", "way", "many", "pair"]) (m := b__law_chip_web) F (h.glo 27) sc__law_chip_web hx (F.bindsN (ps := ["pen", "nodes", "ties"]) fun _ _ _ _ _ _ us hl => match us, hl with | [_, _, _], _ => rfl) fun cdv A outer s H E w =>
    (sm_cons (sm_set 3 sc__law_chip_web.nd (pm_call (fn__law_draw (C := C) h w.cold) w (by decide) (fun _ => rfl) (am_cons (pm_val 0) (am_cons pm_int am_nil)) (al (al a0))))
    (sm_cons (sm_if (tm_eq w.hu (pb (pm_val 3)) (pb pm_int)) (sm_cons (sm_set 4 sc__law_chip_web.nd (pm_add (pb pm_int) (pb (pm_call (fn__law_draw (C := C) h w.cold) w (by decide) (fun _ => rfl) (am_cons (pm_val 0) (am_cons (pm_min2 rfl (h.free 64) (pb pm_int) (pb (pm_sub (pb (pm_val 1)) (pb pm_int)))) am_nil)) (al (al a0))))))
    (sm_one (sm_ret (pm_tup (am_cons (pm_val 4) (am_cons (pm_tuple (h.free 69) (pb (pm_call (fn__law_shuffled (C := C) h w.cold) w (by decide) (fun _ => rfl) (am_cons (pm_val 0) (am_cons (pf (pm_lc rfl sc__law_chip_web.nd (im_seqB (pb (pm_call (fn__law_tuples (C := C) h w.cold) w (by decide) (fun _ => rfl) (am_cons (pf (pm_listRg rfl (h.free 62) (rg_1 (h.free 65) (pb (pm_val 4))))) (am_cons pm_int am_nil)) (al (al a0))))) (own := [("pair", 5)]) (blk_of (by kernel_rfl)) (fun s H Cb cl fp => (gm_name 5 sc__law_chip_web.nd)) (fun s H Cb cl fp => (tms_one (tm_lt (pb (pm_ix (pb (pm_val 5)) (pb pm_int))) (pb (pm_ix (pb (pm_val 5)) (pb pm_int)))))) (fun s H Cb cl fp => (pm_val 5)))) am_nil)) (al (al a0))))) am_nil)))))) sm_nil)
    (sm_one (sm_ret (pm_call (fn__law_joined_web (C := C) h w.cold) w (by decide) (fun _ => rfl) (am_cons (pm_val 0) (am_cons (pm_val 1) (am_cons (pm_val 2) am_nil))) (al (al (al a0))))))))
def b__law_fire : SM :=
    (mSeq (mSetO (mFCall kList (aCons (mVal 2) aNil)) 4)
    (mSeq (mFor (mIt (mVal 1)) (gTp (gsCons (gNm 5) (gsCons (gNm 6) gsNil)))
    (mSeq (mSetIx 4 (mVal 5) (mOp kAdd (mOp kSub (mOp kIx (mOwn 4) (mVal 5)) (mOp kIx (mVal 3) (mVal 5))) (mOp kIx (mVal 3) (mVal 6))))
    (mSetIx 4 (mVal 6) (mOp kAdd (mOp kSub (mOp kIx (mOwn 4) (mVal 6)) (mOp kIx (mVal 3) (mVal 6))) (mOp kIx (mVal 3) (mVal 5))))))
    (mRet (mCall kTuple (aCons (mOwn 4) aNil)))))
def m__law_fire : FM := mDef 7 b__law_fire
theorem sc__law_fire : FnScope ["many", "ties", "chips", "row", "found", "a", "b"] ["many", "ties", "chips", "row"] (defScope s28) := ⟨rfl, rfl, rfl, by decide +kernel, rfl, by decide +kernel, by decide +kernel⟩
theorem fn__law_fire {C : Ctx} {P : Program} {wd : World} {base : Heap} (h : FX C.K C.mg) (hx : C.ex = none) : Fn C P wd base true "_law_fire" 1 4 m__law_fire := by
  obtain ⟨fd, F⟩ := h.says.def_ 28 (d := d28) rfl
  exact fn_of (N := ["many", "ties", "chips", "row", "found", "a", "b"]) (m := b__law_fire) F (h.glo 28) sc__law_fire hx (F.bindsN (ps := ["many", "ties", "chips", "row"]) fun _ _ _ _ _ _ us hl => match us, hl with | [_, _, _, _], _ => rfl) fun cdv A outer s H E w =>
    (sm_cons (sm_setO 4 sc__law_fire.nd (pm_list (h.free 62) (pb (pm_val 2))))
    (sm_cons (sm_for (passes_of rfl) rfl (im_seq (pm_val 1)) (gm_tup rfl (gms_cons (gm_name 5 sc__law_fire.nd) (gms_cons (gm_name 6 sc__law_fire.nd) gms_nil)) (gl (gl gl0)))
    (sm_cons (sm_setIx 4 (pm_add (pb (pm_sub (pb (pm_ix (pm_own 4) (pb (pm_val 5)))) (pb (pm_ix (pb (pm_val 3)) (pb (pm_val 5)))))) (pb (pm_ix (pb (pm_val 3)) (pb (pm_val 6))))) (pb (pm_val 5)))
    (sm_one (sm_setIx 4 (pm_add (pb (pm_sub (pb (pm_ix (pm_own 4) (pb (pm_val 6)))) (pb (pm_ix (pb (pm_val 3)) (pb (pm_val 6)))))) (pb (pm_ix (pb (pm_val 3)) (pb (pm_val 5))))) (pb (pm_val 6))))))
    (sm_one (sm_ret (pm_tuple (h.free 69) (pm_own 4))))))
def b__law_chips : SM :=
    (mRet (mCall kTuple (aCons (mFr (mComp (mRng1 (mVal 1)) [3] (gNm 3) tmYes (mOp kSub (mFn m__law_draw (aCons (mVal 0) (aCons (mOp kAdd (mOp kMul (mC (.int 2)) (mVal 2)) (mC (.int 1))) aNil))) (mVal 2)))) aNil)))
def m__law_chips : FM := mDef 4 b__law_chips
theorem sc__law_chips : FnScope ["pen", "many", "size", "k"] ["pen", "many", "size"] (defScope s29) := ⟨rfl, rfl, rfl, by decide +kernel, rfl, by decide +kernel, by decide +kernel⟩
theorem fn__law_chips {C : Ctx} {P : Program} {wd : World} {base : Heap} (h : FX C.K C.mg) (hx : C.ex = none) : Fn C P wd base true "_law_chips" 2 3 m__law_chips := by
  obtain ⟨fd, F⟩ := h.says.def_ 29 (d := d29) rfl
  exact fn_of (N := ["pen", "many", "size", "k"]) (m := b__law_chips) F (h.glo 29) sc__law_chips hx (F.bindsN (ps := ["pen", "many", "size"]) fun _ _ _ _ _ _ us hl => match us, hl with | [_, _, _], _ => rfl) fun cdv A outer s H E w =>
    (sm_one (sm_ret (pm_tuple (h.free 69) (pfb (pm_lc rfl sc__law_chips.nd (im_range1 (h.free 65) (pb (pm_val 1))) (own := [("k", 3)]) (blk_of (by kernel_rfl)) (fun s H Cb cl fp => (gm_name 3 sc__law_chips.nd)) (fun s H Cb cl fp => tms_nil) (fun s H Cb cl fp => (pm_sub (pb (pm_call (fn__law_draw (C := C) h w.cold) (w.blk s H _ Cb cl fp) (by decide) (fun _ => rfl) (am_cons (pm_val 0) (am_cons (pm_add (pb (pm_mul (pb pm_int) (pb (pm_val 2)))) (pb pm_int)) am_nil)) (al (al a0)))) (pb (pm_val 2)))))))))
def b_Web___init__ : OF :=
    (mChk (mTOr (mTNot (mT (mFn m_is_integer (aCons (mVal 1) aNil)))) (mTNot (mT (mChain kLe kLe (mC (.int 1)) (mVal 1) (mC (.int 16)))))) (mRaise "BadNumber" ["what", "number"] (aCons (mC (.str "many")) (aCons (mVal 1) aNil)))
    (mChk (mTOr (mTNot (mT (mFn m_is_list (aCons (mVal 2) aNil)))) (mTNot (mT (mCall kAll (aCons (mFr (mComp (mIt (mVal 2)) [3] (gNm 3) tmYes (mFn m_is_tie (aCons (mVal 3) (aCons (mVal 1) aNil))))) aNil))))) (mRaise "BadTable" ["what"] (aCons (mC (.str "ties")) aNil))
    (mChk (mT (mOp kGt (mCall kLen (aCons (mVal 2) aNil)) (mC (.int 12)))) (mRaise "TooMany" ["what", "many", "limit"] (aCons (mC (.str "ties")) (aCons (mCall kLen (aCons (mVal 2) aNil)) (aCons (mC (.int 12)) aNil))))
    (mIn [("many", (mVal 1)), ("ties", (mFn (m_as_tuples 8) (aCons (mVal 2) aNil)))]))))
def m_Web___init__ : IM := mDefI 4 b_Web___init__
theorem sc_Web___init__ : FnScope ["self", "many", "ties", "tie"] ["self", "many", "ties"] (defScope s47) := ⟨rfl, rfl, rfl, by decide +kernel, rfl, by decide +kernel, by decide +kernel⟩
theorem in_Web {C : Ctx} {P : Program} {wd : World} {base : Heap} (h : FX C.K C.mg) (hx : C.ex = none) : Ins C P wd base true "Web" 10 2 m_Web___init__ := by
  obtain ⟨fd, F⟩ := h.says.def_ 47 (d := d47) rfl
  exact ins_of (m := m_Web___init__) (h.glo 50) ((exO_ok h).2.1 _ (by decide +kernel)) (F.bindsN (ps := ["self", "many", "ties"]) fun _ _ _ _ _ _ us hl => match us, hl with | [_, _, _], _ => rfl) rfl (fnI_of (N := ["self", "many", "ties", "tie"]) (m := b_Web___init__) (n := 2) F sc_Web___init__ hx (by decide) fun cdv A outer s H E w =>
    (in_if (wm_or (tm_not (tm_val (pm_call (fn_is_integer (C := C) h w.cold) w (by decide) (fun _ => rfl) (am_cons (pm_val 1) am_nil) (al a0)))) (wm_or1 (tm_not (tm_chain ok_le ok_le op_le op_le (pb pm_int) (pb (pm_val 1)) (pb (pm_gint (h.int 51).choose_spec ⟨_, rfl⟩)))))).pt (sm_one (sm_raise w rfl (exD_BadNumber h) (by decide) (am_cons pm_str (am_cons (pm_val 1) am_nil))))
    (in_if (wm_or (tm_not (tm_val (pm_call (fn_is_list (C := C) h w.cold) w (by decide) (fun _ => rfl) (am_cons (pm_val 2) am_nil) (al a0)))) (wm_or1 (tm_not (tm_val (pm_all rfl (h.free 57) (pfb (pm_lc rfl sc_Web___init__.nd (im_seqB (pb (pm_val 2))) (own := [("tie", 3)]) (blk_of (by kernel_rfl)) (fun s H Cb cl fp => (gm_name 3 sc_Web___init__.nd)) (fun s H Cb cl fp => tms_nil) (fun s H Cb cl fp => (pm_call (fn_is_tie (C := C) h w.cold) (w.blk s H _ Cb cl fp) (by decide) (fun _ => rfl) (am_cons (pm_val 3) (am_cons (pm_val 1) am_nil)) (al (al a0))))))))))).pt (sm_one (sm_raise w rfl (exD_BadTable h) (by decide) (am_cons pm_str am_nil)))
    (in_if (tm_gt (pb (pm_len (h.free 61) (pb (pm_val 2)))) (pb (pm_gint (h.int 52).choose_spec ⟨_, rfl⟩))) (sm_one (sm_raise w rfl (exD_TooMany h) (by decide) (am_cons pm_str (am_cons (pm_len (h.free 61) (pb (pm_val 2))) (am_cons (pm_gint (h.int 52).choose_spec ⟨_, rfl⟩) am_nil)))))
    (in_flds (fl_cons rfl ((exO_ok h).1 _ ob_Web).1.cls (((exO_ok h).1 _ ob_Web).2 _ (by decide +kernel)) (pm_val 1)
    (fl_cons rfl ((exO_ok h).1 _ ob_Web).1.cls (((exO_ok h).1 _ ob_Web).2 _ (by decide +kernel)) (pm_call (fn_as_tuples (C := C) h w.cold 8) w (by decide) (fun _ => rfl) (am_cons (pm_val 2) am_nil) (al a0))
    fl_nil)))))))
def b__law_right : SM :=
    (mSeq (mSet (mFn m__law_chip_web (aCons (mVal 0) (aCons (mC (.int 6)) (aCons (mC (.int 9)) aNil)))) (gTp (gsCons (gNm 1) (gsCons (gNm 2) gsNil))))
    (mSeq (mSet (mTup (aCons (mMk "Web" m_Web___init__ (aCons (mVal 1) (aCons (mVal 2) aNil))) (aCons (mFn m__law_pick (aCons (mVal 0) (aCons (mFr (mLst (aCons (mC (.int 3)) (aCons (mC (.int 9)) (aCons (mOp kPow (mC (.int 10)) (mC (.int 30))) aNil))))) aNil))) aNil))) (gTp (gsCons (gNm 3) (gsCons (gNm 4) gsNil))))
    (mSeq (mSet (mTup (aCons (mFn m__law_chips (aCons (mVal 0) (aCons (mVal 1) (aCons (mVal 4) aNil)))) (aCons (mFn m__law_chips (aCons (mVal 0) (aCons (mVal 1) (aCons (mVal 4) aNil)))) (aCons (mFn m__law_chips (aCons (mVal 0) (aCons (mVal 1) (aCons (mC (.int 5)) aNil)))) aNil)))) (gTp (gsCons (gNm 5) (gsCons (gNm 6) (gsCons (gNm 7) gsNil)))))
    (mSeq (mSet (mFn m__law_fire (aCons (mVal 1) (aCons (mVal 2) (aCons (mVal 5) (aCons (mVal 6) aNil))))) (gNm 8))
    (mSeq (mIfS (mTOr (mTNot (mT (mFn (m__law_is 8) (aCons (mFn m_fired (aCons (mVal 3) (aCons (mFn m__law_either (aCons (mVal 0) (aCons (mVal 5) aNil))) (aCons (mFn m__law_either (aCons (mVal 0) (aCons (mVal 6) aNil))) aNil)))) (aCons (mVal 8) aNil))))) (mT (mOp kNe (mCall kSumA (aCons (mVal 8) aNil)) (mCall kSumA (aCons (mVal 5) aNil))))) (mRet (mC (.bl false))) mNext)
    (mSeq (mIfS (mTOr (mT (mOp kNe (mFn m_fired (aCons (mVal 3) (aCons (mVal 8) (aCons (mVal 7) aNil)))) (mFn m_fired (aCons (mVal 3) (aCons (mVal 5) (aCons (mCall kTuple (aCons (mFr (mComp (mZip (aCons (mVal 6) (aCons (mVal 7) aNil))) [9, 10] (gTp (gsCons (gNm 9) (gsCons (gNm 10) gsNil))) tmYes (mOp kAdd (mVal 9) (mVal 10)))) aNil)) aNil)))))) (mT (mOp kNe (mFn m_fired (aCons (mVal 3) (aCons (mVal 5) (aCons (mOp kMul (mTup (aCons (mVal 4) aNil)) (mVal 1)) aNil)))) (mVal 5)))) (mRet (mC (.bl false))) mNext)
    (mSeq (mSetO (mComp (mRng1 (mVal 1)) [13] (gNm 13) tmYes (mCall kLen (aCons (mFr (mComp (mIt (mVal 2)) [12] (gNm 12) (mT (mOp kIn (mVal 13) (mVal 12))) (mVal 12))) aNil))) 11)
    (mSeq (mIfS (mTOr (mTNot (mT (mFn (m__law_is 8) (aCons (mFn m_canonical (aCons (mVal 3) aNil)) (aCons (mCall kTuple (aCons (mFr (mComp (mIt (mOwn 11)) [14] (gNm 14) tmYes (mOp kSub (mVal 14) (mC (.int 2))))) aNil)) aNil))))) (mT (mOp kNe (mCall kSumA (aCons (mFn m_canonical (aCons (mVal 3) aNil)) aNil)) (mOp kSub (mOp kMul (mC (.int 2)) (mOp kAdd (mOp kSub (mCall kLen (aCons (mVal 2) aNil)) (mVal 1)) (mC (.int 1)))) (mC (.int 2)))))) (mRet (mC (.bl false))) mNext)
    (mSeq (mSet (mTup (aCons (mFn m__law_bent_row (aCons (mVal 0) (aCons (mVal 5) aNil))) (aCons (mFn m__law_bent_row (aCons (mVal 0) (aCons (mVal 6) aNil))) aNil))) (gTp (gsCons (gNm 15) (gsCons (gNm 16) gsNil))))
    (mSeq (mIfS (mT (mOp kNe (mLam 3 b__law_fault (mFn m_fired (aCons (mVal 3) (aCons (mVal 15) (aCons (mVal 16) aNil))))) (mTup (aCons (mC (.str "row")) (aCons (mC (.str "chips")) (aCons (mCall kRepr (aCons (mVal 15) aNil)) aNil)))))) (mRet (mC (.bl false))) mNext)
    (mRet (mOp kEq (mLam 3 b__law_fault (mFn m_fired (aCons (mVal 3) (aCons (mVal 5) (aCons (mVal 16) aNil))))) (mTup (aCons (mC (.str "row")) (aCons (mC (.str "row")) (aCons (mCall kRepr (aCons (mVal 16) aNil)) aNil))))))))))))))))
def m__law_right : FM := mDef 17 b__law_right
theorem sc__law_right : FnScope ["pen", "many", "ties", "web", "size", "chips", "row", "more", "due", "a", "b", "counts", "tie", "v", "one", "bad", "wrong"] ["pen"] (defScope s30) := ⟨rfl, rfl, rfl, by decide +kernel, rfl, by decide +kernel, by decide +kernel⟩
theorem fn__law_right {C : Ctx} {P : Program} {wd : World} {base : Heap} (h : FX C.K C.mg) (tb : TTl C base) (hx : C.ex = none) : Fn C P wd base true "_law_right" 12 1 m__law_right := by
  obtain ⟨fd, F⟩ := h.says.def_ 30 (d := d30) rfl
  exact fn_ofL (N := ["pen", "many", "ties", "web", "size", "chips", "row", "more", "due", "a", "b", "counts", "tie", "v", "one", "bad", "wrong"]) (m := b__law_right) (p := ("_law_right", none)) F (h.glo 30) sc__law_right hx (F.bindsN (ps := ["pen"]) fun _ _ _ _ _ _ us hl => match us, hl with | [_], _ => rfl) fun A outer s H E w =>
    (sm_cons (sm_asg (pm_call (fn__law_chip_web (C := C) h w.cold) w (by decide) (fun _ => rfl) (am_cons (pm_val 0) (am_cons pm_int (am_cons pm_int am_nil))) (al (al (al a0)))) (gm_tup rfl (gms_cons (gm_name 1 sc__law_right.nd) (gms_cons (gm_name 2 sc__law_right.nd) gms_nil)) (gl (gl gl0))))
    (sm_cons (sm_asg (pm_tup (am_cons (pm_mk (in_Web (C := C) h w.cold) w (by decide) (fun _ => rfl) (am_cons (pm_val 1) (am_cons (pm_val 2) am_nil)) (al (al a0))) (am_cons (pm_call (fn__law_pick (C := C) h w.cold) w (by decide) (fun _ => rfl) (am_cons (pm_val 0) (am_cons (pf (pm_lst (am_cons pm_int (am_cons pm_int (am_cons (pm_pow (pb pm_int) (pb pm_int)) am_nil))))) am_nil)) (al (al a0))) am_nil))) (gm_tup rfl (gms_cons (gm_name 3 sc__law_right.nd) (gms_cons (gm_name 4 sc__law_right.nd) gms_nil)) (gl (gl gl0))))
    (sm_cons (sm_asg (pm_tup (am_cons (pm_call (fn__law_chips (C := C) h w.cold) w (by decide) (fun _ => rfl) (am_cons (pm_val 0) (am_cons (pm_val 1) (am_cons (pm_val 4) am_nil))) (al (al (al a0)))) (am_cons (pm_call (fn__law_chips (C := C) h w.cold) w (by decide) (fun _ => rfl) (am_cons (pm_val 0) (am_cons (pm_val 1) (am_cons (pm_val 4) am_nil))) (al (al (al a0)))) (am_cons (pm_call (fn__law_chips (C := C) h w.cold) w (by decide) (fun _ => rfl) (am_cons (pm_val 0) (am_cons (pm_val 1) (am_cons pm_int am_nil))) (al (al (al a0)))) am_nil)))) (gm_tup rfl (gms_cons (gm_name 5 sc__law_right.nd) (gms_cons (gm_name 6 sc__law_right.nd) (gms_cons (gm_name 7 sc__law_right.nd) gms_nil))) (gl (gl (gl gl0)))))
    (sm_cons (sm_set 8 sc__law_right.nd (pm_call (fn__law_fire (C := C) h w.cold) w (by decide) (fun _ => rfl) (am_cons (pm_val 1) (am_cons (pm_val 2) (am_cons (pm_val 5) (am_cons (pm_val 6) am_nil)))) (al (al (al (al a0))))))
    (sm_cons (sm_if (wm_or (tm_not (tm_val (pm_call (fn__law_is (C := C) h w.cold 8) w (by decide) (fun _ => rfl) (am_cons (pm_call (fn_fired (C := C) h w.cold) w (by decide) (fun _ => rfl) (am_cons (pm_val 3) (am_cons (pm_call (fn__law_either (C := C) h w.cold) w (by decide) (fun _ => rfl) (am_cons (pm_val 0) (am_cons (pm_val 5) am_nil)) (al (al a0))) (am_cons (pm_call (fn__law_either (C := C) h w.cold) w (by decide) (fun _ => rfl) (am_cons (pm_val 0) (am_cons (pm_val 6) am_nil)) (al (al a0))) am_nil))) (al (al (al a0)))) (am_cons (pm_val 8) am_nil)) (al (al a0))))) (wm_or1 (tm_ne w.hu (pb (pm_sumA rfl (h.free 68) (pb (pm_val 8)))) (pb (pm_sumA rfl (h.free 68) (pb (pm_val 5))))))).pt (sm_one (sm_ret pm_bl)) sm_nil)
    (sm_cons (sm_if (wm_or (tm_ne w.hu (pb (pm_call (fn_fired (C := C) h w.cold) w (by decide) (fun _ => rfl) (am_cons (pm_val 3) (am_cons (pm_val 8) (am_cons (pm_val 7) am_nil))) (al (al (al a0))))) (pb (pm_call (fn_fired (C := C) h w.cold) w (by decide) (fun _ => rfl) (am_cons (pm_val 3) (am_cons (pm_val 5) (am_cons (pm_tuple (h.free 69) (pfb (pm_lc rfl sc__law_right.nd (im_zipB (h.free 70) (bm_cons (pb (pm_val 6)) (bm_cons (pb (pm_val 7)) bm_nil))) (own := [("a", 9), ("b", 10)]) (blk_of (by kernel_rfl)) (fun s H Cb cl fp => (gm_tup rfl (gms_cons (gm_name 9 sc__law_right.nd) (gms_cons (gm_name 10 sc__law_right.nd) gms_nil)) (gl (gl gl0)))) (fun s H Cb cl fp => tms_nil) (fun s H Cb cl fp => (pm_add (pb (pm_val 9)) (pb (pm_val 10))))))) am_nil))) (al (al (al a0)))))) (wm_or1 (tm_ne w.hu (pb (pm_call (fn_fired (C := C) h w.cold) w (by decide) (fun _ => rfl) (am_cons (pm_val 3) (am_cons (pm_val 5) (am_cons (pm_mul (pb (pm_tup (am_cons (pm_val 4) am_nil))) (pb (pm_val 1))) am_nil))) (al (al (al a0))))) (pb (pm_val 5))))).pt (sm_one (sm_ret pm_bl)) sm_nil)
    (sm_cons (sm_setLc 11 rfl sc__law_right.nd (im_range1 (h.free 65) (pb (pm_val 1))) (own := [("v", 13)]) (blk_of (by kernel_rfl)) (fun s H Cb cl fp => (gm_name 13 sc__law_right.nd)) (fun s H Cb cl fp => tms_nil) (fun s H Cb cl fp => (pm_len (h.free 61) (pfb (pm_lc rfl sc__law_right.nd (im_seqB (pb (pm_val 2))) (own := [("tie", 12)]) (blk_of (by kernel_rfl)) (fun s H Cb cl fp => (gm_name 12 sc__law_right.nd)) (fun s H Cb cl fp => (tms_one (tm_in (pb (pm_val 13)) (pb (pm_val 12))))) (fun s H Cb cl fp => (pm_val 12)))))))
    (sm_cons (sm_if (wm_or (tm_not (tm_val (pm_call (fn__law_is (C := C) h w.cold 8) w (by decide) (fun _ => rfl) (am_cons (pm_call (fn_canonical (C := C) h w.cold) w (by decide) (fun _ => rfl) (am_cons (pm_val 3) am_nil) (al a0)) (am_cons (pm_tuple (h.free 69) (pfb (pm_lc rfl sc__law_right.nd (im_seqB (pm_own 11)) (own := [("one", 14)]) (blk_of (by kernel_rfl)) (fun s H Cb cl fp => (gm_name 14 sc__law_right.nd)) (fun s H Cb cl fp => tms_nil) (fun s H Cb cl fp => (pm_sub (pb (pm_val 14)) (pb pm_int)))))) am_nil)) (al (al a0))))) (wm_or1 (tm_ne w.hu (pb (pm_sumA rfl (h.free 68) (pb (pm_call (fn_canonical (C := C) h w.cold) w (by decide) (fun _ => rfl) (am_cons (pm_val 3) am_nil) (al a0))))) (pb (pm_sub (pb (pm_mul (pb pm_int) (pb (pm_add (pb (pm_sub (pb (pm_len (h.free 61) (pb (pm_val 2)))) (pb (pm_val 1)))) (pb pm_int))))) (pb pm_int)))))).pt (sm_one (sm_ret pm_bl)) sm_nil)
    (sm_cons (sm_asg (pm_tup (am_cons (pm_call (fn__law_bent_row (C := C) h w.cold) w (by decide) (fun _ => rfl) (am_cons (pm_val 0) (am_cons (pm_val 5) am_nil)) (al (al a0))) (am_cons (pm_call (fn__law_bent_row (C := C) h w.cold) w (by decide) (fun _ => rfl) (am_cons (pm_val 0) (am_cons (pm_val 6) am_nil)) (al (al a0))) am_nil))) (gm_tup rfl (gms_cons (gm_name 15 sc__law_right.nd) (gms_cons (gm_name 16 sc__law_right.nd) gms_nil)) (gl (gl gl0))))
    (sm_cons (sm_if (tm_ne w.hu (pb (lam__law_fault (C := C) (k := 4) (nm := "_law_right.<locals>.<lambda>") h rfl rfl w tb.cl (by decide) (by decide) rfl (tb.tb _ (mem__law_right)) rfl (tb.inT _ (mem__law_right)) (tb.one _ (mem__law_right)) (LamX.lamS_by (by kernel_rfl)) rfl (fun _ _ _ _ _ => rfl) (fun v A outer s H E f c wL =>
      (pm_call (fn_fired (C := (C.clos v)) h wL.cold) wL (by decide) (fun _ => rfl) (am_cons (pm_val 3) (am_cons (pm_val 15) (am_cons (pm_val 16) am_nil))) (al (al (al a0))))))) (pb (pm_tup (am_cons pm_str (am_cons pm_str (am_cons (pm_repr w.hu (w.gd rfl) (h.free 66) (bm_cons (pb (pm_val 15)) bm_nil)) am_nil)))))) (sm_one (sm_ret pm_bl)) sm_nil)
    (sm_one (sm_ret (pm_eq w.hu (pb (lam__law_fault (C := C) (k := 4) (nm := "_law_right.<locals>.<lambda>") h rfl rfl w tb.cl (by decide) (by decide) rfl (tb.tb _ (mem__law_right)) rfl (tb.inT _ (mem__law_right)) (tb.one _ (mem__law_right)) (LamX.lamS_by (by kernel_rfl)) rfl (fun _ _ _ _ _ => rfl) (fun v A outer s H E f c wL =>
      (pm_call (fn_fired (C := (C.clos v)) h wL.cold) wL (by decide) (fun _ => rfl) (am_cons (pm_val 3) (am_cons (pm_val 5) (am_cons (pm_val 16) am_nil))) (al (al (al a0))))))) (pb (pm_tup (am_cons pm_str (am_cons pm_str (am_cons (pm_repr w.hu (w.gd rfl) (h.free 66) (bm_cons (pb (pm_val 16)) bm_nil)) am_nil))))))))))))))))))
def b_lam0 : EM := (mFn m_fired (aCons (mVal 0) (aCons (mC .non) (aCons (mC .non) aNil))))
def m_lam0 : FM := mDefE 1 b_lam0
theorem sc_lam0 : FnScope ["web"] ["web"] lam_0.sc := ⟨rfl, rfl, rfl, by decide +kernel, rfl, by decide +kernel, by decide +kernel⟩
theorem fnl_0 {C : Ctx} {P : Program} {wd : World} {base : Heap} (h : FX C.K C.mg) (lt : C.lt = ltL) (hx : C.ex = none) : FnL C P wd base true "_law_refused#0" 5 1 m_lam0 :=
  fnl_of (N := ["web"]) (ps := ["web"]) (mb := b_lam0) (lt_0 lt) sc_lam0 hx (fun _ _ _ us hl => match us, hl with | [_], _ => rfl) fun f cd A outer s H E w =>
    (pm_call (fn_fired (C := C) h w.cold) w (by decide) (fun _ => rfl) (am_cons (pm_val 0) (am_cons pm_non (am_cons pm_non am_nil))) (al (al (al a0))))
def b__law_refused : SM :=
    (mSeq (mSet (mTup (aCons (mMk "Web" m_Web___init__ (aCons (mC (.int 3)) (aCons (mTup (aCons (mTup (aCons (mC (.int 0)) (aCons (mC (.int 1)) aNil))) aNil)) aNil))) (aCons (mMk "Web" m_Web___init__ (aCons (mC (.int 9)) (aCons (mCall kTuple (aCons (mFr (mComp (mRng1 (mC (.int 8))) [2] (gNm 2) tmYes (mTup (aCons (mVal 2) (aCons (mOp kAdd (mVal 2) (mC (.int 1))) aNil))))) aNil)) aNil))) aNil))) (gTp (gsCons (gNm 0) (gsCons (gNm 1) gsNil))))
    (mSeq (mFor (mIt (mTup (aCons (mC (.fn "canonical")) (aCons (mLamV "_law_refused#0") aNil)))) (gNm 3)
    (mSeq (mIfS (mT (mOp kNe (mLam 3 b__law_fault (mCallW 3 [("canonical", m_canonical)] [("_law_refused#0", m_lam0)] (aCons (mVal 0) aNil))) (mTup (aCons (mC (.str "unlike")) (aCons (mC (.str "web")) aNil))))) (mRet (mC (.bl false))) mNext)
    (mIfS (mT (mOp kNe (mLam 3 b__law_fault (mCallW 3 [("canonical", m_canonical)] [("_law_refused#0", m_lam0)] (aCons (mVal 1) aNil))) (mTup (aCons (mC (.str "many")) (aCons (mC (.str "nodes")) (aCons (mC (.int 9)) (aCons (mC (.int 8)) aNil))))))) (mRet (mC (.bl false))) mNext)))
    (mRet (mC (.bl true)))))
def m__law_refused : FM := mDef 4 b__law_refused
theorem sc__law_refused : FnScope ["two", "wide", "k", "call"] [] (defScope s31) := ⟨rfl, rfl, rfl, by decide +kernel, rfl, by decide +kernel, by decide +kernel⟩
theorem fn__law_refused {C : Ctx} {P : Program} {wd : World} {base : Heap} (h : FX C.K C.mg) (tb : TTl C base) (hx : C.ex = none) : Fn C P wd base true "_law_refused" 12 0 m__law_refused := by
  obtain ⟨fd, F⟩ := h.says.def_ 31 (d := d31) rfl
  exact fn_ofL (N := ["two", "wide", "k", "call"]) (m := b__law_refused) (p := ("_law_refused", none)) F (h.glo 31) sc__law_refused hx (F.bindsN (ps := []) fun _ _ _ _ _ _ us hl => match us, hl with | [], _ => rfl) fun A outer s H E w =>
    (sm_cons (sm_asg (pm_tup (am_cons (pm_mk (in_Web (C := C) h w.cold) w (by decide) (fun _ => rfl) (am_cons pm_int (am_cons (pm_tup (am_cons (pm_tup (am_cons pm_int (am_cons pm_int am_nil))) am_nil)) am_nil)) (al (al a0))) (am_cons (pm_mk (in_Web (C := C) h w.cold) w (by decide) (fun _ => rfl) (am_cons pm_int (am_cons (pm_tuple (h.free 69) (pfb (pm_lc rfl sc__law_refused.nd (im_range1 (h.free 65) (pb pm_int)) (own := [("k", 2)]) (blk_of (by kernel_rfl)) (fun s H Cb cl fp => (gm_name 2 sc__law_refused.nd)) (fun s H Cb cl fp => tms_nil) (fun s H Cb cl fp => (pm_tup (am_cons (pm_val 2) (am_cons (pm_add (pb (pm_val 2)) (pb pm_int)) am_nil))))))) am_nil)) (al (al a0))) am_nil))) (gm_tup rfl (gms_cons (gm_name 0 sc__law_refused.nd) (gms_cons (gm_name 1 sc__law_refused.nd) gms_nil)) (gl (gl gl0))))
    (sm_cons (sm_for (passes_of rfl) rfl (im_seq (pm_tup (am_cons (pm_gfn rfl (h.glo 12)) (am_cons (pm_lamV (x := "_law_refused#0") (l := lam_0) w (lt_0 tb.lt) rfl (tb.tb _ (mem__law_refused)) rfl (tb.inT _ (mem__law_refused)) (tb.one _ (mem__law_refused)) rfl (by decide +kernel)) am_nil)))) (gm_name 3 sc__law_refused.nd)
    (sm_cons (sm_if (tm_ne w.hu (pb (lam__law_fault (C := C) (k := 5) (nm := "_law_refused.<locals>.<lambda>") h rfl rfl w tb.cl (by decide) (by decide) rfl (tb.tb _ (mem__law_refused)) rfl (tb.inT _ (mem__law_refused)) (tb.one _ (mem__law_refused)) (LamX.lamS_by (by kernel_rfl)) rfl (fun _ _ _ _ _ => rfl) (fun v A outer s H E f c wL =>
      (pm_callW 3 (k := 5) (Fns.cons (fn_canonical (C := (C.clos v)) h wL.cold) (by decide) Fns.nil) (FnLs.cons (fnl_0 (C := (C.clos v)) h tb.lt wL.cold) (by decide) FnLs.nil) wL (by decide) (fun _ => rfl) (am_cons (pm_val 0) am_nil) (al a0))))) (pb (pm_tup (am_cons pm_str (am_cons pm_str am_nil))))) (sm_one (sm_ret pm_bl)) sm_nil)
    (sm_one (sm_if (tm_ne w.hu (pb (lam__law_fault (C := C) (k := 5) (nm := "_law_refused.<locals>.<lambda>") h rfl rfl w tb.cl (by decide) (by decide) rfl (tb.tb _ (mem__law_refused)) rfl (tb.inT _ (mem__law_refused)) (tb.one _ (mem__law_refused)) (LamX.lamS_by (by kernel_rfl)) rfl (fun _ _ _ _ _ => rfl) (fun v A outer s H E f c wL =>
      (pm_callW 3 (k := 5) (Fns.cons (fn_canonical (C := (C.clos v)) h wL.cold) (by decide) Fns.nil) (FnLs.cons (fnl_0 (C := (C.clos v)) h tb.lt wL.cold) (by decide) FnLs.nil) wL (by decide) (fun _ => rfl) (am_cons (pm_val 1) am_nil) (al a0))))) (pb (pm_tup (am_cons pm_str (am_cons pm_str (am_cons pm_int (am_cons pm_int am_nil))))))) (sm_one (sm_ret pm_bl)) sm_nil))))
    (sm_one (sm_ret pm_bl))))
def b1_law : SM := (mSet (mFn m__law_pen (aCons (mVal 0) aNil)) (gNm 1))
def b2_law : SM :=
    (mSeq (mFor (mRng1 (mC (.int 5))) (gNm 2)
    (mIfS (mTNot (mT (mFn m__law_right (aCons (mVal 1) aNil)))) (mRet (mC (.bl false))) mNext))
    (mSeq (mSet (mMk "Web" m_Web___init__ (aCons (mC (.int 3)) (aCons (mTup (aCons (mTup (aCons (mC (.int 0)) (aCons (mC (.int 1)) aNil))) (aCons (mTup (aCons (mC (.int 1)) (aCons (mC (.int 2)) aNil))) (aCons (mTup (aCons (mC (.int 0)) (aCons (mC (.int 2)) aNil))) aNil)))) aNil))) (gNm 3))
    (mRet (mV (mTAnd (mT (mFn m__law_refused aNil)) (mTAnd (mT (mFn (m__law_is 8) (aCons (mFn m_fired (aCons (mVal 3) (aCons (mTup (aCons (mC (.int 2)) (aCons (mC (.int 0)) (aCons (mC (.int 0)) aNil)))) (aCons (mTup (aCons (mC (.int 1)) (aCons (mC (.int 0)) (aCons (mC (.int 0)) aNil)))) aNil)))) (aCons (mTup (aCons (mC (.int 0)) (aCons (mC (.int 1)) (aCons (mC (.int 1)) aNil)))) aNil)))) (mT (mFn (m__law_is 8) (aCons (mFn m_canonical (aCons (mMk "Web" m_Web___init__ (aCons (mC (.int 1)) (aCons (mTup aNil) aNil))) aNil)) (aCons (mTup (aCons (mNeg (mC (.int 2))) aNil)) aNil))))))))))
def nLaw : Nat := 4
def ipLaw : Nat := 1
theorem sc_law : FnScope ["script", "pen", "lap", "ring"] ["script"] (defScope s32) := ⟨rfl, rfl, rfl, by decide +kernel, rfl, by decide +kernel, by decide +kernel⟩
theorem fn_law_ {C : Ctx} {P : Program} {wd : World} {ok : List Int → Prop} {pen0 : List Int → Pen} (h : FX C.K C.mg) (hx : C.ex = none) (hp : C.pa = none) (hm1 : ∀ ns, ok ns → b1_law (env0 4 [.scr ns]) emptyPen = .next ((env0 4 [.scr ns]).set 1 (.val (.dct (penDs (pen0 ns))))) emptyPen)
    (hm2 : ∀ ns, ok ns → ∃ q, b2_law (envL 4 1) (pen0 ns) = .ret (.bl true) q) : ∃ fd, (∀ (s : Shared) (u : Value), BindsTo s fd ⟨[u], []⟩ [("script", u)]) ∧ ∀ base : Heap, TTl C base → FnA true P wd C.K C.mg base (L2.CX P wd) 13 (He.ga C.K "law") fd ["script"] (spLaw C ok) := by
  obtain ⟨fd, F⟩ := h.says.def_ 32 (d := d32) rfl
  have b := FunD.bindsA (ps := ["script"]) F fun _ _ _ _ _ _ us hl => match us, hl with | [_], _ => rfl
  refine ⟨fd, fun s u => b s [u] rfl, fun base tb => ?_⟩
  exact law_of (N := ["script", "pen", "lap", "ring"]) (m1 := b1_law) (m2 := b2_law) (ip := 1) F sc_law hx hp (by decide) (by decide) (fun cdv A outer s H E w =>
    (sm_set 1 sc_law.nd (pm_call (fn__law_pen (C := C) h w.cold) w (by decide) (fun _ => rfl) (am_cons (pm_val 0) am_nil) (al a0)))) (fun cdv a l A outer s H E w =>
    (sm_cons (sm_for (passes_of rfl) rfl (im_range1 (h.free 65) (pb pm_int)) (gm_name 2 sc_law.nd)
    (sm_one (sm_if (tm_not (tm_val (pm_call (fn__law_right (C := (C.withPen a l)) h (tb.pen a l) w.cold) w (by decide) (fun _ => rfl) (am_cons (pm_val 1) am_nil) (al a0)))) (sm_one (sm_ret pm_bl)) sm_nil)))
    (sm_cons (sm_set 3 sc_law.nd (pm_mk (in_Web (C := (C.withPen a l)) h w.cold) w (by decide) (fun _ => rfl) (am_cons pm_int (am_cons (pm_tup (am_cons (pm_tup (am_cons pm_int (am_cons pm_int am_nil))) (am_cons (pm_tup (am_cons pm_int (am_cons pm_int am_nil))) (am_cons (pm_tup (am_cons pm_int (am_cons pm_int am_nil))) am_nil)))) am_nil)) (al (al a0))))
    (sm_one (sm_ret (vm_and (vm (pm_call0 (fn__law_refused (C := (C.withPen a l)) h (tb.pen a l) w.cold) w (by decide) (fun _ => rfl))) (vm_and (vm (pm_call (fn__law_is (C := (C.withPen a l)) h w.cold 8) w (by decide) (fun _ => rfl) (am_cons (pm_call (fn_fired (C := (C.withPen a l)) h w.cold) w (by decide) (fun _ => rfl) (am_cons (pm_val 3) (am_cons (pm_tup (am_cons pm_int (am_cons pm_int (am_cons pm_int am_nil)))) (am_cons (pm_tup (am_cons pm_int (am_cons pm_int (am_cons pm_int am_nil)))) am_nil))) (al (al (al a0)))) (am_cons (pm_tup (am_cons pm_int (am_cons pm_int (am_cons pm_int am_nil)))) am_nil)) (al (al a0)))) (vm_one (vm (pm_call (fn__law_is (C := (C.withPen a l)) h w.cold 8) w (by decide) (fun _ => rfl) (am_cons (pm_call (fn_canonical (C := (C.withPen a l)) h w.cold) w (by decide) (fun _ => rfl) (am_cons (pm_mk (in_Web (C := (C.withPen a l)) h w.cold) w (by decide) (fun _ => rfl) (am_cons pm_int (am_cons (pm_tup am_nil) am_nil)) (al (al a0))) am_nil) (al a0)) (am_cons (pm_tup (am_cons (pm_neg (pb pm_int)) am_nil)) am_nil)) (al (al a0)))))))))))) hm1 hm2
end Lw
end Pu
end

section
set_option maxHeartbeats 0
open PySem PySem.Spec PyProof.Rows L2

namespace Pu
namespace Lw
open PySem.W HandSHeadRun
theorem runA (w : World) : ∀ os : OsState, (endF (stepQ (denQ tabQ) R.prog w) 20000 R.prog w os).map (fun s => (looksF R.prog (boot_heap w.params) s.abs, seenQ (PySem.W.view R.prog [59]) nms (importedModules R.prog.main.body) (fun s => xlAt (PySem.W.view R.prog [59]) [] s && recOk R.toRowW.records s) s.abs)) = some (true, openGood (PySem.W.view R.prog [59]) nms) := by
  intro os
  kernel_rfl
theorem runB (w : World) : ∀ os : OsState, (endF (stepQ (denQ tabQ) R.prog w) 20000 R.prog w os).map ob = some (hk.val w) := by
  intro os
  kernel_rfl
theorem run (w : World) : RunEq R (PySem.W.view R.prog [59]) hk ob 20000 nms w := run2 (runA w) (runB w)
end Lw
end Pu
end

section
set_option maxHeartbeats 4000000
namespace Pu
open PySem PySem.Spec PyProof.Rows L2
/-! ### mirrors evaluated -/
theorem pv_cells (q : Pen) : penVal (.inr "cells") q = some (.lst (q.cells.map D.int)) := if_pos rfl
theorem pv_at (q : Pen) : penVal (.inr "at") q = some (.int q.at_) := (if_neg (Ne.symm pen_keys.1)).trans (if_pos rfl)
theorem pv_digits (q : Pen) : penVal (.inr "digits") q = some (.int q.digits) := by
  obtain ⟨n1, n2, n3, n4, n5, n6, n7, n8, n9, n10⟩ := pen_keys
  exact (if_neg (Ne.symm n2)).trans ((if_neg (Ne.symm n5)).trans (if_pos rfl))
theorem pv_count (q : Pen) : penVal (.inr "count") q = some (.int q.count) := by
  obtain ⟨n1, n2, n3, n4, n5, n6, n7, n8, n9, n10⟩ := pen_keys
  exact (if_neg (Ne.symm n3)).trans ((if_neg (Ne.symm n6)).trans ((if_neg (Ne.symm n8)).trans (if_pos rfl)))
theorem pv_fold (q : Pen) : penVal (.inr "fold") q = some (.int q.fold) := by
  obtain ⟨n1, n2, n3, n4, n5, n6, n7, n8, n9, n10⟩ := pen_keys
  exact (if_neg (Ne.symm n4)).trans ((if_neg (Ne.symm n7)).trans ((if_neg (Ne.symm n9)).trans ((if_neg (Ne.symm n10)).trans (if_pos rfl))))
theorem ps_at (i : Int) (h : 0 ≤ i) (q : Pen) : penSet (.inr "at") i q = some { q with at_ := i.toNat } := (if_pos rfl).trans (if_pos h)
theorem ps_digits (i : Int) (q : Pen) : penSet (.inr "digits") i q = some { q with digits := i } := by
  obtain ⟨n1, n2, n3, n4, n5, n6, n7, n8, n9, n10⟩ := pen_keys
  exact (if_neg (Ne.symm n5)).trans (if_pos rfl)
theorem ps_count (i : Int) (q : Pen) : penSet (.inr "count") i q = some { q with count := i } := by
  obtain ⟨n1, n2, n3, n4, n5, n6, n7, n8, n9, n10⟩ := pen_keys
  exact (if_neg (Ne.symm n6)).trans ((if_neg (Ne.symm n8)).trans (if_pos rfl))
theorem ps_fold (i : Int) (q : Pen) : penSet (.inr "fold") i q = some { q with fold := i } := by
  obtain ⟨n1, n2, n3, n4, n5, n6, n7, n8, n9, n10⟩ := pen_keys
  exact (if_neg (Ne.symm n7)).trans ((if_neg (Ne.symm n9)).trans ((if_neg (Ne.symm n10)).trans (if_pos rfl)))
theorem bind_ok {α β : Type} (a : α) (p : Pen) (k : α → Pen → Out β) : (Out.ok a p).bind k = k a p := rfl
theorem bind_err {α β : Type} (e : Err) (p : Pen) (k : α → Pen → Out β) : (Out.err e p : Out α).bind k = .err e p := rfl
theorem res_ok {α : Type} (a : α) (p : Pen) (env : Env) (k : α → Pen → Res) : (Out.ok a p).res env k = k a p := rfl
theorem res_err {α : Type} (e : Err) (p : Pen) (env : Env) (k : α → Pen → Res) : (Out.err e p : Out α).res env k = .err e env p := rfl
theorem ne_ok {α : Type} (a : α) (p : Pen) : (Out.ok a p).ne = .ok a p := rfl
theorem eq_int (i j : Int) : kEq (.int i) (.int j) = some (.bl (i == j)) := by
  unfold kEq
  simp [D.py, SeqAt.shaped, PyData.eqv, PyData.canLay0, PyData.depth]
theorem fmod_range (a : Int) {b : Int} (h : 0 < b) : 0 ≤ a.fmod b ∧ a.fmod b < b := ⟨Int.fmod_nonneg_of_pos a h, Int.fmod_lt_of_pos a h⟩
theorem small_mul {a b : Int} (h : a.natAbs < 2 ^ 64 ∨ b.natAbs < 2 ^ 64) : kMul (.int a) (.int b) = some (.int (a * b)) := by
  show kMulI a b = _
  unfold kMulI gMul
  rw [if_pos]
  rcases h with h | h
  · rw [decide_eq_true h, Bool.true_or]
  · rw [decide_eq_true h, Bool.true_or, Bool.or_true]
theorem mod_ok (a : Int) {b : Int} (h : b ≠ 0) : kModI a b = some (.int (a.fmod b)) := by
  unfold kModI
  rw [if_pos h]
theorem div_ok (a : Int) {b : Int} (h : b ≠ 0) (h2 : b.natAbs < 1073741824) : kDivI a b = some (.int (a.fdiv b)) := by
  unfold kDivI gDiv
  rw [if_pos]
  rw [decide_eq_true h, decide_eq_true h2, Bool.true_or, Bool.and_true]
theorem pow10 (k : Nat) (h : k ≤ 1000000) : kPowI 10 k = some (.int (10 ^ k)) := by
  unfold kPowI
  rw [if_pos ⟨by omega, by omega, by decide⟩]
  rfl
end Pu
end

section
set_option maxHeartbeats 4000000
namespace Pu
open PySem PySem.Spec PyProof.Rows L2
/-! ### shown texts: their signs, their length -/
def Sm (x : Str) : Prop := ∀ c ∈ x.cps.toList, c < 1114112
theorem chr_lt (ch : Char) : ch.toNat < 1114112 := by
  have h := ch.valid
  show ch.val.toNat < 1114112
  rcases h with h | h
  · exact Nat.lt_trans h (by decide)
  · exact h.2
theorem Sm.app {a b : Str} (h : Sm a) (g : Sm b) : Sm (a ++ b) := fun c hc => by
  have e : (a ++ b).cps.toList = a.cps.toList ++ b.cps.toList := by
    show (a.cps ++ b.cps).toList = _
    simp
  rw [e] at hc
  exact (List.mem_append.mp hc).elim (h c) (g c)
theorem Sm.lit (s : String) : Sm (Str.ofString s) := fun c hc => by
  rw [Str.ofString_eq_toList] at hc
  have hc' : c ∈ s.toList.map Char.toNat := hc
  obtain ⟨ch, _, rfl⟩ := List.mem_map.mp hc'
  exact chr_lt ch
theorem sm_char {q c : Nat} (hq : q < 1114112) (hc : c < 1114112) : ∀ d ∈ Builtin.Str.reprChar q c, d < 1114112 := by
  have hx : ∀ n d, d ∈ List.replicate n 48 ++ (Nat.toDigits 16 c).map Char.toNat → d < 1114112 := fun n d h => by
    rcases List.mem_append.mp h with h | h
    · rw [(List.mem_replicate.mp h).2]
      decide
    · obtain ⟨ch, _, rfl⟩ := List.mem_map.mp h
      exact chr_lt ch
  intro d hd
  unfold Builtin.Str.reprChar at hd
  dsimp only at hd
  repeat' split at hd
  all_goals first
    | (simp only [List.mem_cons, List.not_mem_nil, or_false] at hd
       omega)
    | (rcases List.mem_append.mp hd with hd | hd
       · simp only [List.mem_cons, List.not_mem_nil, or_false] at hd
         omega
       · exact hx _ _ hd)
theorem sm_fold {q : Nat} (hq : q < 1114112) : ∀ (l : List Nat) (acc : Array Nat), (∀ c ∈ l, c < 1114112) → (∀ c ∈ acc.toList, c < 1114112) → ∀ c ∈ (l.foldl (fun out c => out ++ (Builtin.Str.reprChar q c).toArray) acc).toList, c < 1114112
  | [], acc, _, h => h
  | c :: l, acc, h1, h2 => by
    rw [List.foldl_cons]
    refine sm_fold hq l _ (fun d hd => h1 d (List.mem_cons_of_mem _ hd)) fun d hd => ?_
    have e : (acc ++ (Builtin.Str.reprChar q c).toArray).toList = acc.toList ++ Builtin.Str.reprChar q c := by simp
    rw [e] at hd
    exact (List.mem_append.mp hd).elim (h2 d) (sm_char hq (h1 c List.mem_cons_self) d)
theorem Sm.repr {x : Str} (h : Sm x) : Sm (reprText x) := by
  have hq : reprQuote x < 1114112 := by
    unfold reprQuote
    split <;> decide
  intro c hc
  unfold reprText at hc
  have hc' : c ∈ ((x.cps.foldl (fun out c => out ++ (Builtin.Str.reprChar (reprQuote x) c).toArray) #[reprQuote x]).push (reprQuote x)).toList := hc
  rw [Array.toList_push, ← Array.foldl_toList] at hc'
  rcases List.mem_append.mp hc' with z | z
  · refine sm_fold hq _ _ h (fun d hd => ?_) c z
    have e : d = reprQuote x := by simpa using hd
    rw [e]
    exact hq
  · have e : c = reprQuote x := by simpa using z
    rw [e]
    exact hq
theorem Sm.empty : Sm Str.empty := fun c hc => by cases hc
theorem Sm.textFrom : ∀ (ts : List Str) (k : Nat) (acc : Str), Sm acc → (∀ t ∈ ts, Sm t) → Sm (textFrom k acc ts)
  | [], _, _, h, _ => h
  | t :: ts, k, acc, h, g => Sm.textFrom ts (k + 1) _ ((h.app (Sm.lit _)).app (g t List.mem_cons_self)) fun u hu => g u (List.mem_cons_of_mem _ hu)
theorem Sm.list {ts : List Str} (g : ∀ t ∈ ts, Sm t) : Sm (listText ts) := (Sm.textFrom ts 0 _ (Sm.lit _) g).app (Sm.lit _)
theorem Sm.join (sep : Str) (hs : Sm sep) : ∀ {ts : List Str}, (∀ t ∈ ts, Sm t) → Sm (Str.join sep ts)
  | [], _ => Sm.empty
  | [x], g => g x List.mem_cons_self
  | x :: y :: r, g => ((g x List.mem_cons_self).app hs).app (Sm.join sep hs fun u hu => g u (List.mem_cons_of_mem _ hu))
theorem Sm.tup {ts : List Str} (g : ∀ t ∈ ts, Sm t) : Sm (tupleText ts) := ((Sm.lit _).app (Sm.join _ (Sm.lit _) g)).app (Sm.lit _)
theorem Sm.dict {ts : List Str} (g : ∀ t ∈ ts, Sm t) : Sm (dictText ts) := ((Sm.lit _).app (Sm.join _ (Sm.lit _) g)).app (Sm.lit _)
mutual
def smL : PyData → Bool
  | .str x => x.cps.toList.all fun c => decide (c < 1114112)
  | .list xs => smLs xs
  | .tuple xs => smLs xs
  | .dict kvs => smLk kvs
  | .none => true
  | .bool _ => true
  | .int _ => true
def smLs : List PyData → Bool
  | [] => true
  | x :: xs => smL x && smLs xs
def smLk : List (PyData × PyData) → Bool
  | [] => true
  | (k, v) :: r => (smL k && smL v) && smLk r
end
mutual
theorem sm_shown : ∀ d : PyData, smL d = true → Sm d.shown
  | .none, _ => by simp only [PyData.shown]; exact Sm.lit _
  | .bool b, _ => by
    simp only [PyData.shown]
    split <;> exact Sm.lit _
  | .int i, _ => by simp only [PyData.shown]; exact Sm.lit _
  | .str x, h => by
    simp only [smL, List.all_eq_true, decide_eq_true_eq] at h
    simp only [PyData.shown]
    exact Sm.repr h
  | .list xs, h => by
    simp only [smL] at h
    simp only [PyData.shown]
    exact Sm.list (sm_all xs h)
  | .tuple xs, h => by
    simp only [smL] at h
    simp only [PyData.shown]
    exact Sm.tup (sm_all xs h)
  | .dict kvs, h => by
    simp only [smL] at h
    simp only [PyData.shown]
    exact Sm.dict (sm_kv kvs h)
theorem sm_all : ∀ xs : List PyData, smLs xs = true → ∀ t ∈ PyData.shownAll xs, Sm t
  | [], _, t, ht => by simp only [PyData.shownAll] at ht; cases ht
  | x :: xs, h, t, ht => by
    simp only [smLs, Bool.and_eq_true] at h
    simp only [PyData.shownAll] at ht
    rcases List.mem_cons.mp ht with e | m
    · rw [e]
      exact sm_shown x h.1
    · exact sm_all xs h.2 t m
theorem sm_kv : ∀ kvs : List (PyData × PyData), smLk kvs = true → ∀ t ∈ PyData.shownKv kvs, Sm t
  | [], _, t, ht => by simp only [PyData.shownKv] at ht; cases ht
  | (k, v) :: r, h, t, ht => by
    simp only [smLk, Bool.and_eq_true] at h
    simp only [PyData.shownKv] at ht
    rcases List.mem_cons.mp ht with e | m
    · rw [e]
      exact ((sm_shown k h.1.1).app (Sm.lit _)).app (sm_shown v h.1.2)
    · exact sm_kv r h.2 t m
end
/-- a small datum that repr shows -/
structure Shw (B n : Nat) (d : D) : Prop where
  ok : d.okP = true
  sh : d.pr.showable = true
  lv : d.pr.leavesShort 50 = true
  bk : d.pr.bulk ≤ n
  dp : d.pr.depth ≤ B
theorem Shw.len {B n : Nat} {d : D} (h : Shw B n d) : d.pr.shown.length ≤ 52 * n + 50 := by
  have e := PyData.shown_le_bulk 50 (by decide) d.pr h.lv
  have e2 := Nat.mul_le_mul_left 52 h.bk
  omega
theorem Shw.repr {B n : Nat} {d : D} (h : Shw B n d) (hB : B < 60) (hn : 52 * n + 50 ≤ 16000000) : kRepr [d] = some (.str d.pr.shown) := by
  have hl : d.pr.shown.length ≤ sizeLine := by
    have := h.len
    rw [sizeLine_eq]
    omega
  have hd : d.pr.depth < 60 := by
    have := h.dp
    omega
  exact if_pos ⟨h.ok, h.sh, hl, hd⟩
theorem Shw.str {x : Str} (h : Sm x) : Shw 0 x.length (.str x) := by
  refine ⟨rfl, rfl, ?_, Nat.le_refl _, Nat.le_refl _⟩
  show (x.cps.toList.all fun c => decide (c < 16 ^ 8)) = true
  rw [List.all_eq_true]
  exact fun c hc => decide_eq_true (Nat.lt_trans (h c hc) (by decide))
theorem Shw.mono {B n B' n' : Nat} {d : D} (h : Shw B n d) (hB : B ≤ B') (hn : n ≤ n') : Shw B' n' d := ⟨h.ok, h.sh, h.lv, Nat.le_trans h.bk hn, Nat.le_trans h.dp hB⟩
inductive Shws (B : Nat) : Nat → List D → Prop where
  | nil : Shws B 0 []
  | cons {n m : Nat} {d : D} {ds : List D} (h : Shw B n d) (t : Shws B m ds) : Shws B (n + 1 + m) (d :: ds)
theorem Shws.all {B n : Nat} {ds : List D} (h : Shws B n ds) : D.okPs ds = true ∧ PyData.showableAll (D.prs ds) = true ∧ PyData.leavesShortAll 50 (D.prs ds) = true ∧ PyData.bulkAll (D.prs ds) ≤ n ∧ PyData.depthAll (D.prs ds) ≤ B := by
  induction h with
  | nil => simp [D.okPs, D.prs, PyData.showableAll, PyData.leavesShortAll, PyData.bulkAll, PyData.depthAll]
  | cons h t ih =>
    obtain ⟨i1, i2, i3, i4, i5⟩ := ih
    have h4 := h.bk
    have h5 := h.dp
    simp only [D.okPs, D.prs, PyData.showableAll, PyData.leavesShortAll, PyData.bulkAll, PyData.depthAll, h.ok, h.sh, h.lv, i1, i2, i3, Bool.and_self, true_and]
    omega
theorem Shw.tup {B n : Nat} {ds : List D} (h : Shws B n ds) : Shw (B + 1) n (.tup ds) := by
  obtain ⟨i1, i2, i3, i4, i5⟩ := h.all
  refine ⟨by simpa only [D.okP] using i1, by simpa only [D.pr, PyData.showable] using i2, by simpa only [D.pr, PyData.leavesShort] using i3, by simpa only [D.pr, PyData.bulk] using i4, ?_⟩
  simp only [D.pr, PyData.depth]
  omega
theorem Shw.lst {B n : Nat} {ds : List D} (h : Shws B n ds) : Shw (B + 1) n (.lst ds) := by
  obtain ⟨i1, i2, i3, i4, i5⟩ := h.all
  refine ⟨by simpa only [D.okP] using i1, by simpa only [D.pr, PyData.showable] using i2, by simpa only [D.pr, PyData.leavesShort] using i3, by simpa only [D.pr, PyData.bulk] using i4, ?_⟩
  simp only [D.pr, PyData.depth]
  omega
end Pu
end

section
set_option maxHeartbeats 4000000
namespace Pu
open PySem PySem.Spec PyProof.Rows L2
/-- plain values -/
def D.bs : D → Bool
  | .non => true
  | .bl _ => true
  | .int _ => true
  | .str _ => true
  | .tup _ => true
  | .lst _ => true
  | .dct _ => true
  | _ => false
def D.isI : D → Bool
  | .int _ => true
  | .bl _ => true
  | _ => false
def D.isB1 : D → Bool
  | .bl _ => true
  | _ => false
def D.isI1 : D → Bool
  | .int _ => true
  | _ => false
def D.isL : D → Bool
  | .tup _ => true
  | .lst _ => true
  | _ => false
/-! ### built-in classes -/
theorem kb_dict_int : kitB "dict" "int" = some false := by decide +kernel
theorem kb_dict_bool : kitB "dict" "bool" = some false := by decide +kernel
theorem kb_dict_tuple : kitB "dict" "tuple" = some false := by decide +kernel
theorem kb_dict_list : kitB "dict" "list" = some false := by decide +kernel
theorem kb_dict_str : kitB "dict" "str" = some false := by decide +kernel
theorem kb_NoneType_int : kitB "NoneType" "int" = some false := by decide +kernel
theorem kb_NoneType_bool : kitB "NoneType" "bool" = some false := by decide +kernel
theorem kb_NoneType_list : kitB "NoneType" "list" = some false := by decide +kernel
theorem kb_NoneType_tuple : kitB "NoneType" "tuple" = some false := by decide +kernel
theorem kb_NoneType_str : kitB "NoneType" "str" = some false := by decide +kernel
theorem kb_bool_int : kitB "bool" "int" = some true := by decide +kernel
theorem kb_bool_bool : kitB "bool" "bool" = some true := by decide +kernel
theorem kb_bool_list : kitB "bool" "list" = some false := by decide +kernel
theorem kb_bool_tuple : kitB "bool" "tuple" = some false := by decide +kernel
theorem kb_bool_str : kitB "bool" "str" = some false := by decide +kernel
theorem kb_int_int : kitB "int" "int" = some true := by decide +kernel
theorem kb_int_bool : kitB "int" "bool" = some false := by decide +kernel
theorem kb_int_list : kitB "int" "list" = some false := by decide +kernel
theorem kb_int_tuple : kitB "int" "tuple" = some false := by decide +kernel
theorem kb_int_str : kitB "int" "str" = some false := by decide +kernel
theorem kb_str_int : kitB "str" "int" = some false := by decide +kernel
theorem kb_str_bool : kitB "str" "bool" = some false := by decide +kernel
theorem kb_str_list : kitB "str" "list" = some false := by decide +kernel
theorem kb_str_tuple : kitB "str" "tuple" = some false := by decide +kernel
theorem kb_str_str : kitB "str" "str" = some true := by decide +kernel
theorem kb_tuple_int : kitB "tuple" "int" = some false := by decide +kernel
theorem kb_tuple_bool : kitB "tuple" "bool" = some false := by decide +kernel
theorem kb_tuple_list : kitB "tuple" "list" = some false := by decide +kernel
theorem kb_tuple_tuple : kitB "tuple" "tuple" = some true := by decide +kernel
theorem kb_tuple_str : kitB "tuple" "str" = some false := by decide +kernel
theorem kb_list_int : kitB "list" "int" = some false := by decide +kernel
theorem kb_list_bool : kitB "list" "bool" = some false := by decide +kernel
theorem kb_list_list : kitB "list" "list" = some true := by decide +kernel
theorem kb_list_tuple : kitB "list" "tuple" = some false := by decide +kernel
theorem kb_list_str : kitB "list" "str" = some false := by decide +kernel
/-! ### comprehensions and loops of mirrors, evaluated -/
theorem compL_ev {g : GM} {tt : TM} {te : EM} {env : Env} {q : Pen} (t : D → Bool) (f : D → D) : ∀ (ds : List D), (∀ d ∈ ds, ∃ e1, g d env = some e1 ∧ tt e1 q = .ok (t d) q ∧ (t d = true → te e1 q = .ok (f d) q)) → compL g tt te env ds q = .ok ((ds.filter t).map f) q
  | [], _ => rfl
  | d :: ds, h => by
    obtain ⟨e1, h1, h2, h3⟩ := h d List.mem_cons_self
    have ih := compL_ev t f ds fun x hx => h x (List.mem_cons_of_mem _ hx)
    unfold compL
    rw [h1]
    show ((tt e1 q).ne.bind fun k p1 => _) = _
    rw [h2]
    show (if t d = true then _ else _) = _
    by_cases c : t d = true
    · rw [if_pos c, h3 c, List.filter_cons_of_pos c, List.map_cons]
      show ((compL g tt te env ds q).bind fun xs p3 => _) = _
      rw [ih]
      rfl
    · rw [if_neg c, List.filter_cons_of_neg c]
      exact ih
/-- a comprehension that leaves the pen -/
theorem comp_ev {it : AM} {vs : List Nat} {g : GM} {tt : TM} {te : EM} {env : Env} {q : Pen} {ds : List D} (t : D → Bool) (f : D → D) (hi : it env q = .ok ds q) (hl : ds.length ≤ sizeLine)
    (h : ∀ d ∈ ds, ∃ e1, g d (wipeE env vs) = some e1 ∧ tt e1 q = .ok (t d) q ∧ (t d = true → te e1 q = .ok (f d) q)) : mComp it vs g tt te env q = .ok ((ds.filter t).map f) q := by
  unfold mComp
  rw [hi, bind_ok, if_pos hl]
  exact compL_ev t f ds h
/-- .. without a test -/
theorem comp_map {it : AM} {vs : List Nat} {g : GM} {te : EM} {env : Env} {q : Pen} {ds : List D} (f : D → D) (hi : it env q = .ok ds q) (hl : ds.length ≤ sizeLine)
    (h : ∀ d ∈ ds, ∃ e1, g d (wipeE env vs) = some e1 ∧ te e1 q = .ok (f d) q) : mComp it vs g tmYes te env q = .ok (ds.map f) q := by
  have e := comp_ev (tt := tmYes) (fun _ => true) f hi hl fun d hd => by
    obtain ⟨e1, h1, h2⟩ := h d hd
    exact ⟨e1, h1, rfl, fun _ => h2⟩
  rw [e, List.filter_eq_self.mpr fun _ _ => rfl]
/-- .. over the image of a list -/
theorem comp_of {α : Type} {it : AM} {vs : List Nat} {g : GM} {tt : TM} {te : EM} {env : Env} {q : Pen} {xs : List α} (c : α → D) (t : α → Bool) (f : α → D) (hi : it env q = .ok (xs.map c) q) (hl : xs.length ≤ sizeLine)
    (h : ∀ x ∈ xs, ∃ e1, g (c x) (wipeE env vs) = some e1 ∧ tt e1 q = .ok (t x) q ∧ (t x = true → te e1 q = .ok (f x) q)) : mComp it vs g tt te env q = .ok ((xs.filter t).map f) q := by
  unfold mComp
  rw [hi, bind_ok, if_pos (by rw [List.length_map]; exact hl)]
  clear hi hl
  induction xs with
  | nil => rfl
  | cons x xs ih =>
    obtain ⟨e1, h1, h2, h3⟩ := h x List.mem_cons_self
    have ih := ih fun y hy => h y (List.mem_cons_of_mem _ hy)
    rw [List.map_cons]
    unfold compL
    rw [h1]
    show ((tt e1 q).ne.bind fun k p1 => _) = _
    rw [h2]
    show (if t x = true then _ else _) = _
    by_cases c : t x = true
    · rw [if_pos c, h3 c, List.filter_cons_of_pos c, List.map_cons]
      show ((compL g tt te _ (xs.map _) q).bind fun xs p3 => _) = _
      rw [ih]
      rfl
    · rw [if_neg c, List.filter_cons_of_neg c]
      exact ih
theorem comp_ofM {α : Type} {it : AM} {vs : List Nat} {g : GM} {te : EM} {env : Env} {q : Pen} {xs : List α} (c : α → D) (f : α → D) (hi : it env q = .ok (xs.map c) q) (hl : xs.length ≤ sizeLine)
    (h : ∀ x ∈ xs, ∃ e1, g (c x) (wipeE env vs) = some e1 ∧ te e1 q = .ok (f x) q) : mComp it vs g tmYes te env q = .ok (xs.map f) q := by
  have e := comp_of (tt := tmYes) c (fun _ => true) f hi hl fun x hx => by
    obtain ⟨e1, h1, h2⟩ := h x hx
    exact ⟨e1, h1, rfl, fun _ => h2⟩
  rw [e, List.filter_eq_self.mpr fun _ _ => rfl]
/-- a loop that goes on, told by how many rounds are behind it -/
theorem loop_inv {α : Type} {g : GM} {b : SM} (c : α → D) (I : Nat → Env → Pen → Prop) : ∀ (xs : List α) (n : Nat) (env : Env) (q : Pen), I n env q →
    (∀ (i : Nat) (h : i < xs.length) env q, I (n + i) env q → ∃ e1, g (c xs[i]) env = some e1 ∧ ∃ e2 q2, (b e1 q = .next e2 q2 ∨ b e1 q = .cnt e2 q2) ∧ I (n + i + 1) e2 q2) →
    ∃ e2 q2, loopS g b (xs.map c) env q = .next e2 q2 ∧ I (n + xs.length) e2 q2
  | [], n, env, q, h, _ => ⟨env, q, rfl, h⟩
  | x :: xs, n, env, q, h, k => by
    obtain ⟨e1, h1, e2, q2, h2, h3⟩ := k 0 (by simp) env q h
    obtain ⟨e3, q3, h4, h5⟩ := loop_inv c I xs (n + 1) e2 q2 h3 fun i hi env q z => by
      have e : n + 1 + i = n + (i + 1) := by omega
      rw [e] at z ⊢
      exact k (i + 1) (by simpa using hi) env q z
    refine ⟨e3, q3, ?_, ?_⟩
    · rw [List.map_cons, ← h4]
      have h1' : g (c x) env = some e1 := h1
      rcases h2 with h2 | h2 <;> simp only [loopS, h1', h2]
    · rw [List.length_cons]
      have e : n + (xs.length + 1) = n + 1 + xs.length := by omega
      rw [e]
      exact h5
theorem seq_next {a b : SM} {env e2 : Env} {q q2 : Pen} (h : a env q = .next e2 q2) : mSeq a b env q = b e2 q2 := by
  unfold mSeq
  rw [h]
theorem seq_ret {a b : SM} {env : Env} {d : D} {q q2 : Pen} (h : a env q = .ret d q2) : mSeq a b env q = .ret d q2 := by
  unfold mSeq
  rw [h]
theorem seq_err {a b : SM} {env e2 : Env} {e : Err} {q q2 : Pen} (h : a env q = .err e e2 q2) : mSeq a b env q = .err e e2 q2 := by
  unfold mSeq
  rw [h]
theorem for_of {it : AM} {g : GM} {b : SM} {env : Env} {q : Pen} {ds : List D} (h : it env q = .ok ds q) : mFor it g b env q = loopS g b ds env q := by
  unfold mFor
  rw [h]
  rfl
/-! ### values without bools: == is = -/
theorem ne_int (i j : Int) : kNe (.int i) (.int j) = some (.bl (!(i == j))) := by
  unfold kNe
  simp [D.py, SeqAt.shaped, PyData.eqv, PyData.canLay0, PyData.depth]
def prD (p : Int × Int) : D := .tup [.int p.1, .int p.2]
theorem ne_pr (p r : Int × Int) : kNe (prD p) (prD r) = some (.bl (!(p == r))) := by
  obtain ⟨a, b⟩ := p
  obtain ⟨c, d⟩ := r
  unfold kNe prD
  simp [D.py, D.pys, SeqAt.shaped, PyData.eqv, PyData.eqvAll, PyData.canLay0, PyData.canLayAll0, PyData.depth, PyData.depthAll]
  show (!(a == c) || !(b == d)) = !((a == c) && (b == d))
  cases a == c <;> cases b == d <;> rfl
theorem eq_refl {d : D} (h : SeqAt.shaped d.py = true) : kEq d d = some (.bl true) := by
  unfold kEq
  rw [if_pos ⟨h, h⟩, SeqAt.eqv_refl d.py (SeqAt.canLay_of_shaped h)]
theorem ne_refl {d : D} (h : SeqAt.shaped d.py = true) : kNe d d = some (.bl false) := by
  unfold kNe
  rw [if_pos ⟨h, h⟩, SeqAt.eqv_refl d.py (SeqAt.canLay_of_shaped h)]
  rfl
def prsD (ts : List (Int × Int)) : D := .tup (ts.map prD)
theorem prs_lay : ∀ ts : List (Int × Int), PyData.canLayAll0 (D.pys (ts.map prD)) = true
  | [] => by simp [D.pys, PyData.canLayAll0]
  | t :: ts => by
    have ih := prs_lay ts
    simp only [List.map_cons, D.pys, PyData.canLayAll0, Bool.and_eq_true]
    exact ⟨by simp [prD, D.py, D.pys, PyData.canLay0, PyData.canLayAll0], ih⟩
theorem prs_dep : ∀ ts : List (Int × Int), PyData.depthAll (D.pys (ts.map prD)) ≤ 1
  | [] => by simp [D.pys, PyData.depthAll]
  | t :: ts => by
    have ih := prs_dep ts
    simp only [List.map_cons, D.pys, PyData.depthAll]
    have e : PyData.depth (prD t).py ≤ 1 := by simp [prD, D.py, D.pys, PyData.depth, PyData.depthAll]
    omega
theorem prs_shaped (ts : List (Int × Int)) : SeqAt.shaped (prsD ts).py = true := by
  unfold SeqAt.shaped prsD
  simp only [D.py, PyData.canLay0, PyData.depth]
  rw [prs_lay ts, Bool.true_and, decide_eq_true_eq]
  have := prs_dep ts
  omega
/-! ### fields -/
def kFld (cs : List Str) (f : Str) (d : D) (q : Pen) : Out D := match d with
  | .obj c fs => if c ∈ cs then (match fs.lookup f with
    | some z => .ok z q
    | none => .bad) else .bad
  | _ => .bad
theorem mFld_eq (cs : List Str) (f : Str) (m : EM) (env : Env) (q : Pen) : mFld cs f m env q = (m env q).bind (kFld cs f) := rfl
/-! ### slices, subscripts, ranges -/
theorem cut_take {α : Type} (xs : List α) {t : Int} (h : 0 ≤ t) : cutD xs none (some t) = xs.take t.toNat := by
  unfold cutD
  rw [show HT.sIx xs.length 0 none = 0 from rfl, show HT.sIx xs.length xs.length (some t) = min t.toNat xs.length from if_neg (by omega), List.drop_zero, Nat.sub_zero]
  by_cases c : t.toNat ≤ xs.length
  · rw [Nat.min_eq_left c]
  · rw [Nat.min_eq_right (by omega), List.take_length, List.take_of_length_le (by omega)]
theorem cut_drop {α : Type} (xs : List α) {t : Int} (h : 0 ≤ t) : cutD xs (some t) none = xs.drop t.toNat := by
  unfold cutD
  rw [show HT.sIx xs.length xs.length none = xs.length from rfl, show HT.sIx xs.length 0 (some t) = min t.toNat xs.length from if_neg (by omega)]
  by_cases c : t.toNat ≤ xs.length
  · rw [Nat.min_eq_left c, List.take_of_length_le (by rw [List.length_drop]; omega)]
  · rw [Nat.min_eq_right (by omega), Nat.sub_self, List.take_zero, List.drop_eq_nil_of_le (by omega)]
theorem cut_last {α : Type} (xs : List α) : cutD xs none (some (-1)) = xs.dropLast := by
  unfold cutD
  rw [show HT.sIx xs.length 0 none = 0 from rfl, show HT.sIx xs.length xs.length (some (-1)) = (-1 + (xs.length : Int)).toNat by simp [HT.sIx], List.drop_zero, Nat.sub_zero, List.dropLast_eq_take]
  congr 1
  omega
theorem atI_of {α : Type} (xs : List α) {i : Int} (h0 : 0 ≤ i) (h1 : i < xs.length) : L2.atI xs i = some (xs[i.toNat]'(by omega)) := by
  unfold L2.atI ixN
  rw [if_pos h0, if_pos h1]
  exact List.getElem?_eq_getElem _
theorem add_int (i j : Int) : kAdd (.int i) (.int j) = some (.int (i + j)) := rfl
theorem len_tup (xs : List D) : kLen [.tup xs] = some (.int xs.length) := rfl
theorem len_lst (xs : List D) : kLen [.lst xs] = some (.int xs.length) := rfl
theorem tuple_tup (xs : List D) : kTuple [.tup xs] = some (.tup xs) := rfl
theorem tuple_lst (xs : List D) : kTuple [.lst xs] = some (.tup xs) := rfl
theorem ix_lst (xs : List D) (i : Int) : kIx (.lst xs) (.int i) = L2.atI xs i := rfl
theorem ix_tup (xs : List D) (i : Int) : kIx (.tup xs) (.int i) = L2.atI xs i := rfl
def rgI (n : Nat) : List Int := (List.range n).map fun (i : Nat) => (i : Int)
theorem rgN0 (n : Nat) : rgN 0 n = (rgI n).map D.int := by
  unfold rgN rgI
  rw [List.map_map]
  congr 1
  funext i
  simp
theorem rgI_len (n : Nat) : (rgI n).length = n := by simp [rgI]
theorem rgI_get (n i : Nat) (h : i < (rgI n).length) : (rgI n)[i] = i := by simp [rgI]
theorem rgI_mem {n : Nat} {x : Int} : x ∈ rgI n ↔ 0 ≤ x ∧ x < n := by
  unfold rgI
  rw [List.mem_map]
  constructor
  · rintro ⟨i, hi, rfl⟩
    have := List.mem_range.mp hi
    omega
  · rintro ⟨h0, h1⟩
    exact ⟨x.toNat, List.mem_range.mpr (by omega), by omega⟩
theorem rgI_sorted (n : Nat) : (rgI n).Pairwise (· ≤ ·) := by
  unfold rgI
  rw [List.pairwise_map]
  exact List.pairwise_lt_range.imp fun h => by omega
theorem blsD_of {α : Type} (f : α → Bool) : ∀ xs : List α, blsD (xs.map fun x => D.bl (f x)) = some (xs.map f)
  | [] => rfl
  | x :: xs => by simp [blsD, D.toBl, blsD_of f xs]
theorem all_map {α : Type} (f : α → Bool) (xs : List α) : kAll [.lst (xs.map fun x => .bl (f x))] = some (.bl (xs.all f)) := by
  show (match blsD (xs.map fun x => D.bl (f x)) with
    | some ns => some (D.bl (ns.all id))
    | none => none) = _
  rw [blsD_of]
  simp
/-- two lists of ints -/
theorem eqvAll_int : ∀ xs ys : List Int, PyData.eqvAll (D.pys (xs.map D.int)) (D.pys (ys.map D.int)) = (xs == ys)
  | [], [] => rfl
  | [], y :: ys => rfl
  | x :: xs, [] => rfl
  | x :: xs, y :: ys => by
    simp only [List.map_cons, D.pys, D.py, PyData.eqvAll, eqvAll_int xs ys, PyData.eqv]
    rfl
theorem ints_lay : ∀ ts : List Int, PyData.canLayAll0 (D.pys (ts.map D.int)) = true
  | [] => by simp [D.pys, PyData.canLayAll0]
  | t :: ts => by
    simp only [List.map_cons, D.pys, PyData.canLayAll0, Bool.and_eq_true]
    exact ⟨by simp [D.py, PyData.canLay0], ints_lay ts⟩
theorem ints_dep : ∀ ts : List Int, PyData.depthAll (D.pys (ts.map D.int)) = 0
  | [] => by simp [D.pys, PyData.depthAll]
  | t :: ts => by
    simp only [List.map_cons, D.pys, PyData.depthAll, ints_dep ts]
    simp [D.py, PyData.depth]
theorem lst_shaped (ts : List Int) : SeqAt.shaped (D.lst (ts.map D.int)).py = true := by
  unfold SeqAt.shaped
  simp only [D.py, PyData.canLay0, PyData.depth]
  rw [ints_lay ts, ints_dep ts]
  rfl
theorem eq_ints (xs ys : List Int) : kEq (.lst (xs.map D.int)) (.lst (ys.map D.int)) = some (.bl (xs == ys)) := by
  unfold kEq
  rw [if_pos ⟨lst_shaped xs, lst_shaped ys⟩]
  simp only [D.py, PyData.eqv]
  rw [eqvAll_int]
theorem sorted_lst (xs : List Int) : kSorted [.lst (xs.map D.int)] = some ((srt xs).map D.int) := by simp [kSorted, D.items, intsD_map]
theorem sorted_tup (xs : List Int) : kSorted [.tup (xs.map D.int)] = some ((srt xs).map D.int) := by simp [kSorted, D.items, intsD_map]
theorem rng1_int {m : EM} {env : Env} {q q2 : Pen} {n : Int} (h : m env q = .ok (.int n) q2) (h0 : 0 ≤ n) (hn : n ≤ 1000000) : mRng1 m env q = .ok ((rgI n.toNat).map D.int) q2 := by
  unfold mRng1
  rw [h]
  show (if -(2 ^ 62) ≤ n ∧ n < 2 ^ 62 then Out.ok (rgN 0 n.toNat) q2 else .bad) = _
  rw [if_pos ⟨by omega, by omega⟩, rgN0]
/-! ### lists of pairs -/
theorem sl_take (ts : List (Int × Int)) {t : Int} (h : 0 ≤ t) : kSl (prsD ts) none (some t) = some (prsD (ts.take t.toNat)) := by
  show some (D.tup (cutD _ _ _)) = _
  rw [cut_take _ h, ← List.map_take]
  rfl
theorem sl_drop (ts : List (Int × Int)) {t : Int} (h : 0 ≤ t) : kSl (prsD ts) (some t) none = some (prsD (ts.drop t.toNat)) := by
  show some (D.tup (cutD _ _ _)) = _
  rw [cut_drop _ h, ← List.map_drop]
  rfl
theorem add_prs (a b : List (Int × Int)) (h : a.length + b.length ≤ sizeLine) : kAdd (prsD a) (prsD b) = some (prsD (a ++ b)) := by
  show (if (a.map prD).length + (b.map prD).length ≤ sizeLine then some (D.tup (a.map prD ++ b.map prD)) else none) = _
  rw [List.length_map, List.length_map, if_pos h, ← List.map_append]
  rfl
theorem len_prs (ts : List (Int × Int)) : kLen [prsD ts] = some (.int ts.length) := by simp [prsD, kLen]
theorem ix_prs (ts : List (Int × Int)) {i : Int} (h0 : 0 ≤ i) (h1 : i < ts.length) : kIx (prsD ts) (.int i) = some (prD (ts[i.toNat]'(by omega))) := by
  show L2.atI (ts.map prD) i = _
  rw [atI_of _ h0 (by rw [List.length_map]; exact h1)]
  simp
end Pu
end

section
set_option maxHeartbeats 4000000
namespace Pu
open PySem PySem.Spec PyProof.Rows L2
/-! ### values that repr shows -/
theorem shw_int {r : Int} (h : r.natAbs < 10 ^ 45) : Shw 0 0 (.int r) := by
  have h1 := int_text_length_le10 (a := r) (k := 45) (by decide) h
  refine ⟨rfl, ?_, ?_, Nat.le_refl _, Nat.le_refl _⟩
  · show decide (r.natAbs.log2 < 1920) = true
    rw [decide_eq_true_eq]
    by_cases h0 : r.natAbs = 0
    · rw [h0]
      decide
    · rw [Nat.log2_lt h0]
      exact Nat.lt_of_lt_of_le (Nat.lt_trans h (show (10 : Nat) ^ 45 < 2 ^ 150 by decide)) (Nat.pow_le_pow_right (by decide) (by decide))
  · show decide ((PyData.shown (.int r)).length ≤ 50) = true
    rw [decide_eq_true_eq]
    simp only [PyData.shown]
    rw [Str.ofString_eq_toList]
    show ((toString r).toList.map Char.toNat).toArray.size ≤ 50
    have e : (toString r).toList.length = (toString r).length := String.length_toList ..
    simp only [List.size_toArray, List.length_map]
    omega
theorem shw_non : Shw 0 0 .non := ⟨rfl, rfl, rfl, Nat.le_refl _, Nat.le_refl _⟩
theorem shw_bl (b : Bool) : Shw 0 0 (.bl b) := ⟨rfl, rfl, rfl, Nat.le_refl _, Nat.le_refl _⟩
mutual
theorem noX_okP : ∀ d : D, d.okP = true → d.noX = true
  | .non, _ => by simp [D.noX]
  | .bl b, _ => by simp [D.noX]
  | .int i, _ => by simp [D.noX]
  | .str x, _ => by simp [D.noX]
  | .tup xs, h => by
    simp only [D.okP] at h
    simp only [D.noX]
    exact noX_okPs xs h
  | .lst xs, h => by
    simp only [D.okP] at h
    simp only [D.noX]
    exact noX_okPs xs h
  | .dct ks, h => by
    simp only [D.okP] at h
    simp only [D.noX]
    exact noX_okPk ks h
  | .obj c fs, h => by simp [D.okP] at h
  | .pen, h => by simp [D.okP] at h
  | .fn x, h => by simp [D.okP] at h
  | .ty n, h => by simp [D.okP] at h
  | .exc c fs, h => by simp [D.okP] at h
  | .scr ns, h => by simp [D.okP] at h
  | .clo, h => by simp [D.okP] at h
  | .lam _, h => by simp [D.okP] at h
theorem noX_okPs : ∀ xs : List D, D.okPs xs = true → D.noXs xs = true
  | [], _ => by simp [D.noXs]
  | x :: xs, h => by
    simp only [D.okPs, Bool.and_eq_true] at h
    simp only [D.noXs, Bool.and_eq_true]
    exact ⟨noX_okP x h.1, noX_okPs xs h.2⟩
theorem noX_okPk : ∀ ks : List (Key × D), D.okPk ks = true → D.noXk ks = true
  | [], _ => by simp [D.noXk]
  | (k, x) :: ks, h => by
    simp only [D.okPk, Bool.and_eq_true] at h
    simp only [D.noXk, Bool.and_eq_true]
    exact ⟨noX_okP x h.1, noX_okPk ks h.2⟩
end
mutual
theorem noC_okP : ∀ d : D, d.okP = true → d.noC = true
  | .non, _ => by simp [D.noC]
  | .bl b, _ => by simp [D.noC]
  | .int i, _ => by simp [D.noC]
  | .str x, _ => by simp [D.noC]
  | .tup xs, h => by
    simp only [D.okP] at h
    simp only [D.noC]
    exact noC_okPs xs h
  | .lst xs, h => by
    simp only [D.okP] at h
    simp only [D.noC]
    exact noC_okPs xs h
  | .dct ks, h => by
    simp only [D.okP] at h
    simp only [D.noC]
    exact noC_okPk ks h
  | .obj c fs, h => by simp [D.okP] at h
  | .pen, h => by simp [D.okP] at h
  | .fn x, h => by simp [D.okP] at h
  | .ty n, h => by simp [D.okP] at h
  | .exc c fs, h => by simp [D.okP] at h
  | .scr ns, h => by simp [D.okP] at h
  | .clo, h => by simp [D.okP] at h
  | .lam _, h => by simp [D.okP] at h
theorem noC_okPs : ∀ xs : List D, D.okPs xs = true → D.noCs xs = true
  | [], _ => by simp [D.noCs]
  | x :: xs, h => by
    simp only [D.okPs, Bool.and_eq_true] at h
    simp only [D.noCs, Bool.and_eq_true]
    exact ⟨noC_okP x h.1, noC_okPs xs h.2⟩
theorem noC_okPk : ∀ ks : List (Key × D), D.okPk ks = true → D.noCk ks = true
  | [], _ => by simp [D.noCk]
  | (k, x) :: ks, h => by
    simp only [D.okPk, Bool.and_eq_true] at h
    simp only [D.noCk, Bool.and_eq_true]
    exact ⟨noC_okP x h.1, noC_okPk ks h.2⟩
end
theorem strOk_of {x : Str} (h : Sm x) : PyData.strOk x = true := by
  unfold PyData.strOk
  rw [← Array.all_toList, List.all_eq_true]
  exact fun c hc => decide_eq_true (h c hc)
theorem smL_str {x : Str} (h : Sm x) : smL (.str x) = true := by
  simp only [smL, List.all_eq_true, decide_eq_true_eq]
  exact h
/-- a value that may stand in an error -/
structure Odd (d : D) : Prop where
  ok : d.okP = true
  bs : d.bs = true
  rep : kRepr [d] = some (.str d.pr.shown)
  sm : Sm d.pr.shown
theorem Odd.noX {d : D} (h : Odd d) : d.noX = true := noX_okP d h.ok
theorem Odd.noC {d : D} (h : Odd d) : d.noC = true := noC_okP d h.ok
theorem odd_of {B n : Nat} {d : D} (h : Shw B n d) (hB : B < 60) (hn : n ≤ 300000) (hb : d.bs = true) (hs : smL d.pr = true) : Odd d := ⟨h.ok, hb, h.repr hB (by omega), sm_shown _ hs⟩
theorem odd_int {r : Int} (h : r.natAbs < 10 ^ 45) : Odd (.int r) := odd_of (shw_int h) (by decide) (by decide) rfl rfl
theorem odd_non : Odd .non := odd_of shw_non (by decide) (by decide) rfl rfl
theorem odd_bl (b : Bool) : Odd (.bl b) := odd_of (shw_bl b) (by decide) (by decide) rfl rfl
theorem odd_str {x : Str} (h : Sm x) (hl : x.length ≤ 300000) : Odd (.str x) := odd_of (Shw.str h) (by decide) hl rfl (smL_str h)
theorem shws_ints : ∀ {ns : List Int}, (∀ n ∈ ns, n.natAbs < 10 ^ 45) → Shws 0 ns.length (ns.map D.int)
  | [], _ => .nil
  | n :: ns, h => by
    have e : (n :: ns).length = 0 + 1 + ns.length := by rw [List.length_cons]; omega
    rw [e]
    exact .cons (shw_int (h n List.mem_cons_self)) (shws_ints fun x hx => h x (List.mem_cons_of_mem _ hx))
theorem smLs_ints : ∀ (ns : List Int), smLs (D.prs (ns.map D.int)) = true
  | [] => rfl
  | n :: ns => by
    simp only [List.map_cons, D.prs, smLs, Bool.and_eq_true]
    exact ⟨rfl, smLs_ints ns⟩
theorem odd_ints {ns : List Int} (h : ∀ n ∈ ns, n.natAbs < 10 ^ 45) (hl : ns.length ≤ 300000) : Odd (.tup (ns.map D.int)) := odd_of (Shw.tup (shws_ints h)) (by decide) hl rfl (by
  simp only [D.pr, smL]
  exact smLs_ints ns)
theorem odd_lst {ns : List Int} (h : ∀ n ∈ ns, n.natAbs < 10 ^ 45) (hl : ns.length ≤ 300000) : Odd (.lst (ns.map D.int)) := odd_of (Shw.lst (shws_ints h)) (by decide) hl rfl (by
  simp only [D.pr, smL]
  exact smLs_ints ns)
theorem shaped_strs3 {a b c : Str} (ha : Sm a) (hb : Sm b) (hc : Sm c) : SeqAt.shaped (D.tup [.str a, .str b, .str c]).py = true := by
  simp [D.py, D.pys, SeqAt.shaped, PyData.canLay0, PyData.canLayAll0, PyData.depth, PyData.depthAll, strOk_of ha, strOk_of hb, strOk_of hc]
end Pu
end

section
set_option maxHeartbeats 4000000
namespace Pu
open PySem PySem.Spec PyProof.Rows L2
/-! ### loops with a return -/
/-- the first that fits is returned; the pen stays -/
theorem loop_find {α : Type} {g : GM} {b : SM} {q : Pen} (c : α → D) (I : Env → Prop) (t : α → Bool) (r : α → D) : ∀ (xs : List α),
    (∀ x ∈ xs, ∀ env, I env → ∃ e1, g (c x) env = some e1 ∧ (t x = true → b e1 q = .ret (r x) q) ∧ (t x = false → ∃ e2, (b e1 q = .next e2 q ∨ b e1 q = .cnt e2 q) ∧ I e2)) →
    ∀ env, I env → match xs.find? t with
      | some x => loopS g b (xs.map c) env q = .ret (r x) q
      | none => ∃ e2, loopS g b (xs.map c) env q = .next e2 q ∧ I e2
  | [], _, env, hi => ⟨env, rfl, hi⟩
  | x :: xs, h, env, hi => by
    obtain ⟨e1, h1, h2, h3⟩ := h x List.mem_cons_self env hi
    rw [List.find?_cons]
    cases ht : t x with
    | true =>
      show loopS g b (c x :: xs.map c) env q = _
      simp only [loopS, h1, h2 ht]
    | false =>
      obtain ⟨e2, h4, h5⟩ := h3 ht
      have ih := loop_find c I t r xs (fun y hy => h y (List.mem_cons_of_mem _ hy)) e2 h5
      have e : loopS g b ((x :: xs).map c) env q = loopS g b (xs.map c) e2 q := by
        rw [List.map_cons]
        rcases h4 with h4 | h4 <;> simp only [loopS, h1, h4]
      simp only [e]
      exact ih
/-- some value is returned that fits, or the loop goes to its end -/
theorem loop_or {α : Type} {g : GM} {b : SM} (c : α → D) (I : Env → Pen → Prop) (R : D → Pen → Prop) : ∀ (xs : List α),
    (∀ x ∈ xs, ∀ env q, I env q → ∃ e1, g (c x) env = some e1 ∧ ((∃ d q2, b e1 q = .ret d q2 ∧ R d q2) ∨ ∃ e2 q2, (b e1 q = .next e2 q2 ∨ b e1 q = .cnt e2 q2) ∧ I e2 q2)) →
    ∀ env q, I env q → (∃ d q2, loopS g b (xs.map c) env q = .ret d q2 ∧ R d q2) ∨ ∃ e2 q2, loopS g b (xs.map c) env q = .next e2 q2 ∧ I e2 q2
  | [], _, env, q, hi => .inr ⟨env, q, rfl, hi⟩
  | x :: xs, h, env, q, hi => by
    obtain ⟨e1, h1, h2⟩ := h x List.mem_cons_self env q hi
    rcases h2 with ⟨d, q2, h2, h3⟩ | ⟨e2, q2, h2, h3⟩
    · refine .inl ⟨d, q2, ?_, h3⟩
      rw [List.map_cons]
      simp only [loopS, h1, h2]
    · have ih := loop_or c I R xs (fun y hy => h y (List.mem_cons_of_mem _ hy)) e2 q2 h3
      have e : loopS g b ((x :: xs).map c) env q = loopS g b (xs.map c) e2 q2 := by
        rw [List.map_cons]
        rcases h2 with h2 | h2 <;> simp only [loopS, h1, h2]
      rw [e]
      exact ih
/-- ints from lo on -/
def rgF (lo : Int) (n : Nat) : List Int := (List.range n).map fun (i : Nat) => lo + (i : Int)
theorem rgN_map (lo : Int) (n : Nat) : rgN lo n = (rgF lo n).map D.int := by
  unfold rgN rgF
  rw [List.map_map]
  rfl
theorem rgF_len (lo : Int) (n : Nat) : (rgF lo n).length = n := by simp [rgF]
theorem rgF_mem {lo : Int} {n : Nat} {x : Int} : x ∈ rgF lo n ↔ lo ≤ x ∧ x < lo + n := by
  unfold rgF
  rw [List.mem_map]
  constructor
  · rintro ⟨i, hi, rfl⟩
    have := List.mem_range.mp hi
    omega
  · rintro ⟨h0, h1⟩
    exact ⟨(x - lo).toNat, List.mem_range.mpr (by omega), by omega⟩
theorem rgF_succ (lo : Int) (n : Nat) : rgF lo (n + 1) = lo :: rgF (lo + 1) n := by
  unfold rgF
  rw [List.range_succ_eq_map, List.map_cons, List.map_map]
  simp only [Int.natCast_zero, Int.add_zero, List.cons.injEq, true_and]
  congr 1
  funext i
  simp only [Function.comp, Int.natCast_succ]
  omega
theorem rng2_int {m m2 : EM} {env : Env} {q q2 q3 : Pen} {a b : Int} (h : m env q = .ok (.int a) q2) (h2 : m2 env q2 = .ok (.int b) q3) (a0 : -1000000 ≤ a) (a1 : a ≤ 1000000) (b0 : -1000000 ≤ b) (b1 : b ≤ 1000000) : mRng2 m m2 env q = .ok ((rgF a (b - a).toNat).map D.int) q3 := by
  rw [← rgN_map]
  unfold mRng2
  rw [h]
  show ((m2 env q2).bind fun d2 q2 => _) = _
  rw [h2]
  exact if_pos (by omega)
theorem ne_bl (a b : Bool) : kNe (.bl a) (.bl b) = some (.bl (!(a == b))) := by
  cases a <;> cases b <;> rfl
theorem eq_bl (a b : Bool) : kEq (.bl a) (.bl b) = some (.bl (a == b)) := by
  cases a <;> cases b <;> rfl
theorem ne_ints (xs ys : List Int) : kNe (.lst (xs.map D.int)) (.lst (ys.map D.int)) = some (.bl (!(xs == ys))) := by
  unfold kNe
  rw [if_pos ⟨lst_shaped xs, lst_shaped ys⟩]
  simp only [D.py, PyData.eqv]
  rw [eqvAll_int]
theorem gcd_ev (a b : Int) : kGcd [.int a, .int b] = some (.int (Int.gcd a b)) := rfl
theorem int1_int (i : Int) : kInt1 [.int i] = some (.int i) := rfl
theorem mul_int (i j : Int) : kMul (.int i) (.int j) = kMulI i j := rfl
theorem mod_int (i j : Int) : kMod (.int i) (.int j) = kModI i j := rfl
theorem is_non (d : D) : kIs d .non = some (.bl d.isN) := rfl
theorem isnt_non (d : D) : kIsNot d .non = some (.bl (!d.isN)) := rfl
end Pu
end

section
set_option maxHeartbeats 4000000
namespace Pu
open PySem PySem.Spec PyProof.Rows L2
theorem eqE_nil (xs : List D) : kEqE (.lst xs) (.lst []) = some (.bl xs.isEmpty) := by
  cases xs with
  | nil =>
    show (if ([] : List D).length ≠ ([] : List D).length then some (D.bl false) else kEq (.lst []) (.lst [])) = _
    rw [if_neg (by simp)]
    exact eq_refl (by decide)
  | cons x xs =>
    show (if (x :: xs).length ≠ ([] : List D).length then some (D.bl false) else kEq (.lst (x :: xs)) (.lst [])) = _
    rw [if_pos (by simp)]
    rfl
/-- a comprehension whose items move the pen -/
theorem compL_pen {g : GM} {te : EM} {env : Env} (P : D → Prop) : ∀ (ds : List D) (q : Pen), (∀ d ∈ ds, ∀ q, ∃ e1, g d env = some e1 ∧ ∃ x q', te e1 q = .ok x q' ∧ P x) → ∃ xs q', compL g tmYes te env ds q = .ok xs q' ∧ xs.length = ds.length ∧ ∀ x ∈ xs, P x
  | [], q, _ => ⟨[], q, rfl, rfl, fun x hx => by cases hx⟩
  | d :: ds, q, h => by
    obtain ⟨e1, h1, x, q1, h2, px⟩ := h d List.mem_cons_self q
    obtain ⟨xs, q2, h3, hl, hp⟩ := compL_pen P ds q1 fun y hy => h y (List.mem_cons_of_mem _ hy)
    refine ⟨x :: xs, q2, ?_, by rw [List.length_cons, List.length_cons, hl], fun y hy => ?_⟩
    · unfold compL
      rw [h1]
      show ((te e1 q).ne.bind fun x p2 => _) = _
      rw [h2]
      show ((compL g tmYes te env ds q1).bind fun xs p3 => _) = _
      rw [h3]
      rfl
    · rcases List.mem_cons.mp hy with rfl | hy
      · exact px
      · exact hp y hy
theorem comp_pen {it : AM} {vs : List Nat} {g : GM} {te : EM} {env : Env} {q q1 : Pen} {ds : List D} (P : D → Prop) (hi : it env q = .ok ds q1) (hl : ds.length ≤ sizeLine)
    (h : ∀ d ∈ ds, ∀ q, ∃ e1, g d (wipeE env vs) = some e1 ∧ ∃ x q', te e1 q = .ok x q' ∧ P x) : ∃ xs q', mComp it vs g tmYes te env q = .ok xs q' ∧ xs.length = ds.length ∧ ∀ x ∈ xs, P x := by
  obtain ⟨xs, q', h1, h2⟩ := compL_pen P ds q1 h
  refine ⟨xs, q', ?_, h2⟩
  unfold mComp
  rw [hi, bind_ok, if_pos hl]
  exact h1
end Pu
end

section
set_option maxHeartbeats 4000000
namespace Pu
namespace Lw
open PySem PySem.Spec PyProof.Rows L2
def okNs (ns : List Int) : Prop := ns.length ≤ 63 ∧ ∀ z ∈ ns, Builtin.Int.intBits z ≤ 1048576
def foldN (ns : List Int) : Int := ns.foldl (fun f c => (f * 47 + c).fmod 1000000007) 0
def pen0 (ns : List Int) : Pen := ⟨ns, 0, 0, 0, foldN ns⟩
theorem pen_loop (ns : List Int) (p : Pen) : ∀ (f : Int), f.natAbs < 2 ^ 64 → ∀ (l : List Int) (z : Slot), ∃ z', loopS (gNm 2) (mSet (mOp kMod (mCall kInt1 (aCons (mOp kAdd (mOp kMul (mVal 1) (mC (.int 47))) (mVal 2)) aNil)) (mC (.int 1000000007))) (gNm 1)) (l.map D.int) [.val (.scr ns), .val (.int f), z] p = .next [.val (.scr ns), .val (.int (l.foldl (fun f c => (f * 47 + c).fmod 1000000007) f)), z'] p := by
  intro f hf l
  induction l generalizing f with
  | nil => exact fun z => ⟨z, rfl⟩
  | cons c l ih =>
    intro z
    have hr := fmod_range (f * 47 + c) (b := 1000000007) (by decide)
    obtain ⟨z', hz⟩ := ih ((f * 47 + c).fmod 1000000007) (by omega) (.val (.int c))
    refine ⟨z', ?_⟩
    rw [List.map_cons, List.foldl_cons, ← hz]
    have e1 := small_mul (a := f) (b := 47) (.inl hf)
    have e2 := mod_ok (f * 47 + c) (b := 1000000007) (by decide)
    simp [loopS, gNm, mSet, mOp, mCall, aCons, aNil, mVal, mC, bind_ok, res_ok, e1, e2, kAdd, kInt1, kInt]
theorem m_pen (ns : List Int) (h : okNs ns) (p : Pen) : m__law_pen [.scr ns] p = .ok (.dct (penDs (pen0 ns))) p := by
  obtain ⟨z', hz⟩ := pen_loop ns p 0 (by decide) ns .un
  have hl : ns.length ≤ sizeLine := by rw [sizeLine_eq]; have := h.1; omega
  simp (decide := true) [m__law_pen, mDef, b__law_pen, env0, mSeq, mSet, mC, res_ok, gNm, mFor, mItS, mVal, bind_ok, hz, mRet, mDisp, mPairs, mFr, mFCall, kListS, aCons, aNil, Res.fin, penDs, pen0, kCells, kAt, kDigits, kCount, kFold, foldN]

/-- a draw: some number below many -/
theorem m_drawG (q : Pen) (many : Int) (h : 0 < many) (hg : gDiv many = true) : ∃ r q', m__law_draw [.pen, .int many] q = .ok (.int r) q' ∧ 0 ≤ r ∧ r < many := by
  have tail : ∀ (a b c : Slot) (q : Pen), ∃ r q', (mSeq (mIfS (mT (mOp kGt (mPenGet (.inr "digits") (mVal 0)) (mC (.int 0)))) (mSeq (mSet (mOp kMod (mCall kInt1 (aCons (mPenGet (.inr "digits") (mVal 0)) aNil)) (mVal 1)) (gNm 3))
    (mSeq (mPenPut 0 (.inr "digits") (mOp kDiv (mPenGet (.inr "digits") (mVal 0)) (mVal 1)))
    (mRet (mVal 3)))) mNext)
    (mSeq (mSet (mOp kMod (mCall kInt1 (aCons (mOp kAdd (mOp kAdd (mOp kMul (mPenGet (.inr "fold") (mVal 0)) (mC (.int 48271))) (mOp kMul (mPenGet (.inr "count") (mVal 0)) (mC (.int 7919)))) (mC (.int 13))) aNil)) (mC (.int 2147483647))) (gNm 4))
    (mSeq (mSet (mOp kMod (mCall kInt1 (aCons (mOp kAdd (mOp kAdd (mOp kMul (mVal 4) (mVal 4)) (mOp kMul (mC (.int 31)) (mVal 4))) (mPenGet (.inr "count") (mVal 0))) aNil)) (mC (.int 2147483629))) (gNm 4))
    (mSeq (mPenPut 0 (.inr "fold") (mOp kMod (mCall kInt1 (aCons (mOp kAdd (mOp kMul (mVal 4) (mC (.int 16807))) (mC (.int 7))) aNil)) (mC (.int 2147483647))))
    (mRet (mOp kMod (mCall kInt1 (aCons (mOp kDiv (mVal 4) (mC (.int 64))) aNil)) (mVal 1))))))) [.val .pen, .val (.int many), a, b, c] q = .ret (.int r) q' ∧ 0 ≤ r ∧ r < many := by
    intro a b c q
    by_cases hd : 0 < q.digits
    · refine ⟨q.digits.fmod many, { q with digits := q.digits.fdiv many }, ?_, fmod_range _ h⟩
      have e1 := mod_ok q.digits (b := many) (by omega)
      have e2 : kDivI q.digits many = some (.int (q.digits.fdiv many)) := by
        unfold kDivI
        rw [if_pos hg]
      simp [mSeq, mIfS, mT, mOp, mPenGet, mVal, mC, bind_ok, res_ok, pv_digits, ps_digits, kInt, hd, mSet, mCall, aCons, aNil, kInt1, e1, e2, gNm, mPenPut, mRet]
    · let b1 : Int := (q.fold * 48271 + q.count * 7919 + 13).fmod 2147483647
      let b2 : Int := (b1 * b1 + 31 * b1 + q.count).fmod 2147483629
      have r1 := fmod_range (q.fold * 48271 + q.count * 7919 + 13) (b := 2147483647) (by decide)
      have r2 := fmod_range (b1 * b1 + 31 * b1 + q.count) (b := 2147483629) (by decide)
      refine ⟨(b2.fdiv 64).fmod many, { q with fold := (b2 * 16807 + 7).fmod 2147483647 }, ?_, fmod_range _ h⟩
      have e1 := small_mul (a := q.fold) (b := 48271) (.inr (by decide))
      have e2 := small_mul (a := q.count) (b := 7919) (.inr (by decide))
      have e3 := mod_ok (q.fold * 48271 + q.count * 7919 + 13) (b := 2147483647) (by decide)
      have e4 := small_mul (a := b1) (b := b1) (.inl (by show b1.natAbs < _; have := r1.1; have := r1.2; omega))
      have e5 := small_mul (a := 31) (b := b1) (.inl (by decide))
      have e6 := mod_ok (b1 * b1 + 31 * b1 + q.count) (b := 2147483629) (by decide)
      have e7 := small_mul (a := b2) (b := 16807) (.inr (by decide))
      have e8 := mod_ok (b2 * 16807 + 7) (b := 2147483647) (by decide)
      have e9 := div_ok b2 (b := 64) (by decide) (by decide)
      have e10 := mod_ok (b2.fdiv 64) (b := many) (by omega)
      simp [mSeq, mIfS, mT, mOp, mPenGet, mVal, mC, bind_ok, res_ok, pv_digits, pv_fold, pv_count, ps_fold, kInt, hd, mSet, mCall, aCons, aNil, kInt1, kAdd, e1, e2, e3, e4, e5, e6, e7, e8, e9, e10, gNm, mPenPut, mRet, mNext, b1, b2]
  have pre : ∀ q : Pen, ∃ a q', (mIfS (mTAnd (mT (mOp kEq (mPenGet (.inr "digits") (mVal 0)) (mC (.int 0)))) (mT (mOp kLt (mPenGet (.inr "at") (mVal 0)) (mCall kLen (aCons (mPenGet (.inr "cells") (mVal 0)) aNil))))) (mSeq (mSet (mOp kIx (mPenGet (.inr "cells") (mVal 0)) (mPenGet (.inr "at") (mVal 0))) (gNm 2))
    (mSeq (mPenPut 0 (.inr "at") (mOp kAdd (mPenGet (.inr "at") (mVal 0)) (mC (.int 1))))
    (mIfS (mT (mOp kGe (mVal 2) (mOp kPow (mC (.int 10)) (mC (.int 18))))) (mPenPut 0 (.inr "digits") (mOp kSub (mVal 2) (mOp kPow (mC (.int 10)) (mC (.int 18))))) (mPenPut 0 (.inr "fold") (mOp kMod (mCall kInt1 (aCons (mOp kAdd (mOp kMul (mPenGet (.inr "fold") (mVal 0)) (mC (.int 69069))) (mVal 2)) aNil)) (mC (.int 2147483587))))))) mNext) [.val .pen, .val (.int many), .un, .un, .un] q = .next [.val .pen, .val (.int many), a, .un, .un] q' := by
    intro q
    by_cases hd : q.digits = 0
    · by_cases ha : q.at_ < q.cells.length
      · have hx : L2.atI (q.cells.map D.int) (q.at_ : Int) = some (.int q.cells[q.at_]) := by
          unfold L2.atI ixN
          rw [if_pos (by omega), if_pos (by rw [List.length_map]; omega)]
          show (q.cells.map D.int)[((q.at_ : Int)).toNat]? = _
          rw [Int.toNat_natCast, List.getElem?_map, List.getElem?_eq_getElem ha]
          rfl
        have ep : kPowI 10 18 = some (.int 1000000000000000000) := pow10 18 (by decide)
        have es := ps_at ((q.at_ : Int) + 1) (by omega)
        have e1 := small_mul (a := q.fold) (b := 69069) (.inr (by decide))
        have e2 := mod_ok (q.fold * 69069 + q.cells[q.at_]) (b := 2147483587) (by decide)
        have la : ((q.at_ : Int) < (q.cells.length : Int)) := by omega
        by_cases hc : (1000000000000000000 : Int) ≤ q.cells[q.at_]
        · refine ⟨.val (.int q.cells[q.at_]), { q with at_ := ((q.at_ : Int) + 1).toNat, digits := q.cells[q.at_] - 1000000000000000000 }, ?_⟩
          simp [mIfS, mTAnd, mT, mOp, mPenGet, mVal, mC, bind_ok, res_ok, pv_digits, pv_at, pv_cells, pv_fold, ps_digits, ps_fold, es, eq_int, hd, kInt, kLen, mCall, aCons, aNil, la, ha, mSeq, mSet, kIx, D.items, hx, gNm, mPenPut, kAdd, hc, ep]
        · refine ⟨.val (.int q.cells[q.at_]), { q with at_ := ((q.at_ : Int) + 1).toNat, fold := (q.fold * 69069 + q.cells[q.at_]).fmod 2147483587 }, ?_⟩
          simp [mIfS, mTAnd, mT, mOp, mPenGet, mVal, mC, bind_ok, res_ok, pv_digits, pv_at, pv_cells, pv_fold, ps_digits, ps_fold, es, eq_int, hd, kInt, kLen, mCall, aCons, aNil, la, ha, mSeq, mSet, kIx, D.items, hx, gNm, mPenPut, kAdd, hc, ep, e1, e2, kInt1]
      · refine ⟨.un, q, ?_⟩
        have la : ¬ ((q.at_ : Int) < (q.cells.length : Int)) := by omega
        simp [mIfS, mTAnd, mT, mOp, mPenGet, mVal, mC, bind_ok, res_ok, pv_digits, pv_at, pv_cells, eq_int, hd, kInt, kLen, mCall, aCons, aNil, la, ha, mNext]
    · refine ⟨.un, q, ?_⟩
      have hd2 : (q.digits == 0) = false := by simpa using hd
      simp [mIfS, mTAnd, mT, mOp, mPenGet, mVal, mC, bind_ok, res_ok, pv_digits, eq_int, hd2, mNext]
  obtain ⟨a, q1, h1⟩ := pre { q with count := q.count + 1 }
  obtain ⟨r, q2, h3, h4⟩ := tail a .un .un q1
  refine ⟨r, q2, ?_, h4⟩
  have e0 : (mPenPut 0 (.inr "count") (mOp kAdd (mPenGet (.inr "count") (mVal 0)) (mC (.int 1)))) [.val .pen, .val (.int many), .un, .un, .un] q = .next [.val .pen, .val (.int many), .un, .un, .un] { q with count := q.count + 1 } := by
    simp [mPenPut, mOp, mPenGet, mVal, mC, bind_ok, res_ok, pv_count, ps_count, kAdd]
  show (b__law_draw [.val .pen, .val (.int many), .un, .un, .un] q).fin = _
  have e1 : b__law_draw [.val .pen, .val (.int many), .un, .un, .un] q = .ret (.int r) q2 := by
    unfold b__law_draw
    rw [mSeq, e0]
    show mSeq _ _ _ _ = _
    rw [mSeq, h1]
    exact h3
  rw [e1]
  rfl
theorem m_draw (q : Pen) (many : Int) (h : 0 < many) (h2 : many < 1073741824) : ∃ r q', m__law_draw [.pen, .int many] q = .ok (.int r) q' ∧ 0 ≤ r ∧ r < many := m_drawG q many h (by
  unfold gDiv
  rw [decide_eq_true (show many ≠ 0 by omega), decide_eq_true (show many.natAbs < 1073741824 by omega)]
  rfl)
theorem m_pick (q : Pen) (d : D) (ds : List D) (hi : d.items = some ds) (hl : d = .lst ds ∨ d = .tup ds) (h : 0 < ds.length) (h2 : ds.length < 1073741824) : ∃ x q', x ∈ ds ∧ m__law_pick [.pen, d] q = .ok x q' := by
  obtain ⟨r, q', e, r0, r1⟩ := m_draw q ds.length (by omega) (by omega)
  have hr : r.toNat < ds.length := by omega
  refine ⟨ds[r.toNat], q', List.getElem_mem hr, ?_⟩
  have hx : L2.atI ds r = some ds[r.toNat] := by
    unfold L2.atI ixN
    rw [if_pos r0, if_pos r1]
    exact List.getElem?_eq_getElem hr
  have ek : kLen [d] = some (.int ds.length) := by
    rcases hl with rfl | rfl <;> rfl
  simp [m__law_pick, mDef, b__law_pick, env0, mRet, mOp, mVal, bind_ok, res_ok, mFn, aCons, aNil, mCall, ek, e, kIx, hi, hx, Res.fin]
end Lw
end Pu
end

section
set_option maxHeartbeats 4000000
namespace Pu
namespace Lw
open PySem PySem.Spec PyProof.Rows L2
theorem isi_I {d : D} (h : d.bs = true) : kIsi objL exL ask [d, .ty "int"] = some (.bl d.isI) := by
  cases d <;> first
    | (cases h; done)
    | simp [kIsi, D.tag, ask, askT, kb_NoneType_int, kb_bool_int, kb_int_int, kb_str_int, kb_tuple_int, kb_list_int, kb_dict_int, D.isI]
theorem isi_B {d : D} (h : d.bs = true) : kIsi objL exL ask [d, .ty "bool"] = some (.bl d.isB1) := by
  cases d <;> first
    | (cases h; done)
    | simp [kIsi, D.tag, ask, askT, kb_NoneType_bool, kb_bool_bool, kb_int_bool, kb_str_bool, kb_tuple_bool, kb_list_bool, kb_dict_bool, D.isB1]
theorem isi_L {d : D} (h : d.bs = true) : kIsiT objL ask [d, .tup [.ty "list", .ty "tuple"]] = some (.bl d.isL) := by
  cases d <;> first
    | (cases h; done)
    | simp [kIsiT, D.isCls, D.isExc, D.tag, askAny, ask, askT, kb_NoneType_list, kb_NoneType_tuple, kb_bool_list, kb_bool_tuple, kb_int_list, kb_int_tuple, kb_str_list, kb_str_tuple, kb_tuple_list, kb_tuple_tuple, kb_list_list, kb_dict_list, kb_dict_tuple, kb_list_tuple, D.isL]
theorem m_integer {d : D} (h : d.bs = true) (q : Pen) : m_is_integer [d] q = .ok (.bl d.isI1) q := by
  have h1 := isi_I h
  have h2 := isi_B h
  simp [m_is_integer, mDef, b_is_integer, env0, mRet, mV, mTAnd, mTNot, mT, mCall, aCons, aNil, mVal, mC, bind_ok, res_ok, h1, h2, Res.fin]
  cases d <;> simp [D.isI, D.isB1, D.isI1, bind_ok, res_ok]
theorem m_list {d : D} (h : d.bs = true) (q : Pen) : m_is_list [d] q = .ok (.bl d.isL) q := by
  have h1 := isi_L h
  simp (decide := true) [m_is_list, mDef, b_is_list, env0, mRet, mTup, mCall, aCons, aNil, mVal, mC, bind_ok, res_ok, h1, Res.fin, sizeLine_eq]
def isIx (m : Int) : D → Bool
  | .int i => decide (0 ≤ i) && decide (i < m)
  | _ => false
theorem m_index {d : D} (h : d.bs = true) (m : Int) (q : Pen) : m_is_index [d, .int m] q = .ok (.bl (isIx m d)) q := by
  have h1 := m_integer h
  cases d <;> simp [m_is_index, mDef, b_is_index, env0, mRet, mV, mTAnd, mT, mFn, mChain, aCons, aNil, mVal, mC, bind_ok, res_ok, h1, Res.fin, D.isI1, isIx, kInt]
  rename_i i
  by_cases h0 : 0 ≤ i <;> simp [h0, bind_ok, res_ok]
theorem as_int (n : Nat) (i : Int) (q : Pen) : m_as_tuples (n + 1) [.int i] q = .ok (.int i) q := by
  have h1 := isi_L (d := .int i) rfl
  simp (decide := true) [m_as_tuples, mDef, b_as_tuples, env0, mSeq, mIfS, mT, mNext, mRet, mTup, mCall, aCons, aNil, mVal, mC, bind_ok, res_ok, h1, Res.fin, sizeLine_eq, D.isL]
theorem as_tup (n : Nat) {ds : List D} (hl : ds.length ≤ sizeLine) (h : ∀ d ∈ ds, ∀ q, m_as_tuples n [d] q = .ok d q) (q : Pen) : m_as_tuples (n + 1) [.tup ds] q = .ok (.tup ds) q := by
  have h1 := isi_L (d := .tup ds) rfl
  have hc : mComp (mIt (mVal 0)) [1] (gNm 1) tmYes (mFn (m_as_tuples n) (aCons (mVal 1) aNil)) [.val (.tup ds), .un] q = .ok (ds.map id) q := comp_map id rfl hl fun d hd => ⟨_, rfl, by simp [mFn, aCons, aNil, mVal, bind_ok, gNm, wipeE, h d hd]⟩
  rw [List.map_id] at hc
  simp (decide := true) [m_as_tuples, mDef, b_as_tuples, env0, mSeq, mIfS, mT, mNext, mRet, mTup, mCall, aCons, aNil, mVal, mC, bind_ok, res_ok, h1, Res.fin, sizeLine_eq, D.isL, mFr, hc, kTuple]
theorem as_prs (n : Nat) {ts : List (Int × Int)} (hl : ts.length ≤ sizeLine) (q : Pen) : m_as_tuples (n + 3) [prsD ts] q = .ok (prsD ts) q := by
  refine as_tup (n + 2) (by rw [List.length_map]; exact hl) (fun d hd q => ?_) q
  obtain ⟨p, _, rfl⟩ := List.mem_map.mp hd
  refine as_tup (n + 1) (by rw [sizeLine_eq]; simp) (fun d hd q => ?_) q
  simp only [List.mem_cons, List.not_mem_nil, or_false] at hd
  rcases hd with rfl | rfl <;> exact as_int n _ q
end Lw
end Pu
end

section
set_option maxHeartbeats 8000000
namespace Pu
namespace Lw
open PySem PySem.Spec PyProof.Rows L2
theorem isi_exc {c c' : Str} {fs : List (Str × D)} (h : c ∈ exL) (h1 : c ∈ clL) (h2 : c' ∈ clL) : kIsi objL exL ask [.exc c fs, .fn c'] = some (.bl (subB c c')) := by
  show (if c ∈ exL then (ask (.inr c) (.fn c')).map D.bl else none) = _
  rw [if_pos h]
  show (if c ∈ clL ∧ c' ∈ clL then some (subB c c') else none).map D.bl = _
  rw [if_pos ⟨h1, h2⟩]
  rfl
theorem isi_ve {c : Str} {fs : List (Str × D)} (h : c ∈ exL) (h1 : c ∈ clL) : kIsi objL exL ask [.exc c fs, .ty "ValueError"] = some (.bl (isTB c "ValueError")) := by
  show (if c ∈ exL then (ask (.inr c) (.ty "ValueError")).map D.bl else none) = _
  rw [if_pos h]
  show (if c ∈ clL ∧ "ValueError" ∈ tyL then some (isTB c "ValueError") else none).map D.bl = _
  rw [if_pos ⟨h1, by decide +kernel⟩]
  rfl
theorem look_put' {f g : Str} {x : D} {r : List (Str × D)} : List.lookup f ((g, x) :: r) = if f = g then some x else List.lookup f r := by
  rw [List.lookup_cons]
  by_cases e : f = g
  · subst e; simp
  · rw [if_neg e, show (f == g) = false from beq_false_of_ne e]
theorem in_BadNumber : ("BadNumber" : Str) ∈ exL ∧ ("BadNumber" : Str) ∈ clL := by decide +kernel
theorem in_BadRow : ("BadRow" : Str) ∈ exL ∧ ("BadRow" : Str) ∈ clL := by decide +kernel
theorem in_BadTable : ("BadTable" : Str) ∈ exL ∧ ("BadTable" : Str) ∈ clL := by decide +kernel
theorem in_BadWeb : ("BadWeb" : Str) ∈ exL ∧ ("BadWeb" : Str) ∈ clL := by decide +kernel
theorem in_BadLot : ("BadLot" : Str) ∈ exL ∧ ("BadLot" : Str) ∈ clL := by decide +kernel
theorem in_BadName : ("BadName" : Str) ∈ exL ∧ ("BadName" : Str) ∈ clL := by decide +kernel
theorem in_BadText : ("BadText" : Str) ∈ exL ∧ ("BadText" : Str) ∈ clL := by decide +kernel
theorem in_NoPlace : ("NoPlace" : Str) ∈ exL ∧ ("NoPlace" : Str) ∈ clL := by decide +kernel
theorem in_NoName : ("NoName" : Str) ∈ exL ∧ ("NoName" : Str) ∈ clL := by decide +kernel
theorem in_TakenName : ("TakenName" : Str) ∈ exL ∧ ("TakenName" : Str) ∈ clL := by decide +kernel
theorem in_Unlike : ("Unlike" : Str) ∈ exL ∧ ("Unlike" : Str) ∈ clL := by decide +kernel
theorem in_NotThere : ("NotThere" : Str) ∈ exL ∧ ("NotThere" : Str) ∈ clL := by decide +kernel
theorem in_TooMany : ("TooMany" : Str) ∈ exL ∧ ("TooMany" : Str) ∈ clL := by decide +kernel
theorem in_NotKept : ("NotKept" : Str) ∈ exL ∧ ("NotKept" : Str) ∈ clL := by decide +kernel
theorem in_NothingToUndo : ("NothingToUndo" : Str) ∈ exL ∧ ("NothingToUndo" : Str) ∈ clL := by decide +kernel
theorem in_NothingToRedo : ("NothingToRedo" : Str) ∈ exL ∧ ("NothingToRedo" : Str) ∈ clL := by decide +kernel
theorem i_BadRow_BadNumber (fs : List (Str × D)) : kIsi objL exL ask [.exc "BadRow" fs, .fn "BadNumber"] = some (.bl false) := (isi_exc in_BadRow.1 in_BadRow.2 in_BadNumber.2).trans (by rw [show subB "BadRow" "BadNumber" = false by decide +kernel])
theorem i_BadRow_BadRow (fs : List (Str × D)) : kIsi objL exL ask [.exc "BadRow" fs, .fn "BadRow"] = some (.bl true) := (isi_exc in_BadRow.1 in_BadRow.2 in_BadRow.2).trans (by rw [show subB "BadRow" "BadRow" = true by decide +kernel])
theorem i_BadRow_BadTable (fs : List (Str × D)) : kIsi objL exL ask [.exc "BadRow" fs, .fn "BadTable"] = some (.bl false) := (isi_exc in_BadRow.1 in_BadRow.2 in_BadTable.2).trans (by rw [show subB "BadRow" "BadTable" = false by decide +kernel])
theorem i_BadRow_BadWeb (fs : List (Str × D)) : kIsi objL exL ask [.exc "BadRow" fs, .fn "BadWeb"] = some (.bl false) := (isi_exc in_BadRow.1 in_BadRow.2 in_BadWeb.2).trans (by rw [show subB "BadRow" "BadWeb" = false by decide +kernel])
theorem i_BadRow_BadLot (fs : List (Str × D)) : kIsi objL exL ask [.exc "BadRow" fs, .fn "BadLot"] = some (.bl false) := (isi_exc in_BadRow.1 in_BadRow.2 in_BadLot.2).trans (by rw [show subB "BadRow" "BadLot" = false by decide +kernel])
theorem i_BadRow_BadName (fs : List (Str × D)) : kIsi objL exL ask [.exc "BadRow" fs, .fn "BadName"] = some (.bl false) := (isi_exc in_BadRow.1 in_BadRow.2 in_BadName.2).trans (by rw [show subB "BadRow" "BadName" = false by decide +kernel])
theorem i_BadRow_BadText (fs : List (Str × D)) : kIsi objL exL ask [.exc "BadRow" fs, .fn "BadText"] = some (.bl false) := (isi_exc in_BadRow.1 in_BadRow.2 in_BadText.2).trans (by rw [show subB "BadRow" "BadText" = false by decide +kernel])
theorem i_BadRow_NoPlace (fs : List (Str × D)) : kIsi objL exL ask [.exc "BadRow" fs, .fn "NoPlace"] = some (.bl false) := (isi_exc in_BadRow.1 in_BadRow.2 in_NoPlace.2).trans (by rw [show subB "BadRow" "NoPlace" = false by decide +kernel])
theorem i_BadRow_NoName (fs : List (Str × D)) : kIsi objL exL ask [.exc "BadRow" fs, .fn "NoName"] = some (.bl false) := (isi_exc in_BadRow.1 in_BadRow.2 in_NoName.2).trans (by rw [show subB "BadRow" "NoName" = false by decide +kernel])
theorem i_BadRow_TakenName (fs : List (Str × D)) : kIsi objL exL ask [.exc "BadRow" fs, .fn "TakenName"] = some (.bl false) := (isi_exc in_BadRow.1 in_BadRow.2 in_TakenName.2).trans (by rw [show subB "BadRow" "TakenName" = false by decide +kernel])
theorem i_BadRow_Unlike (fs : List (Str × D)) : kIsi objL exL ask [.exc "BadRow" fs, .fn "Unlike"] = some (.bl false) := (isi_exc in_BadRow.1 in_BadRow.2 in_Unlike.2).trans (by rw [show subB "BadRow" "Unlike" = false by decide +kernel])
theorem i_BadRow_NotThere (fs : List (Str × D)) : kIsi objL exL ask [.exc "BadRow" fs, .fn "NotThere"] = some (.bl false) := (isi_exc in_BadRow.1 in_BadRow.2 in_NotThere.2).trans (by rw [show subB "BadRow" "NotThere" = false by decide +kernel])
theorem i_BadRow_TooMany (fs : List (Str × D)) : kIsi objL exL ask [.exc "BadRow" fs, .fn "TooMany"] = some (.bl false) := (isi_exc in_BadRow.1 in_BadRow.2 in_TooMany.2).trans (by rw [show subB "BadRow" "TooMany" = false by decide +kernel])
theorem i_BadRow_NotKept (fs : List (Str × D)) : kIsi objL exL ask [.exc "BadRow" fs, .fn "NotKept"] = some (.bl false) := (isi_exc in_BadRow.1 in_BadRow.2 in_NotKept.2).trans (by rw [show subB "BadRow" "NotKept" = false by decide +kernel])
theorem i_BadRow_NothingToUndo (fs : List (Str × D)) : kIsi objL exL ask [.exc "BadRow" fs, .fn "NothingToUndo"] = some (.bl false) := (isi_exc in_BadRow.1 in_BadRow.2 in_NothingToUndo.2).trans (by rw [show subB "BadRow" "NothingToUndo" = false by decide +kernel])
theorem i_BadRow_NothingToRedo (fs : List (Str × D)) : kIsi objL exL ask [.exc "BadRow" fs, .fn "NothingToRedo"] = some (.bl false) := (isi_exc in_BadRow.1 in_BadRow.2 in_NothingToRedo.2).trans (by rw [show subB "BadRow" "NothingToRedo" = false by decide +kernel])
theorem iv_BadRow (fs : List (Str × D)) : kIsi objL exL ask [.exc "BadRow" fs, .ty "ValueError"] = some (.bl true) := (isi_ve in_BadRow.1 in_BadRow.2).trans (by rw [show isTB "BadRow" "ValueError" = true by decide +kernel])
theorem mk_BadRow (one two : D) (y : Str) (hr : kRepr [two] = some (.str y)) (q : Pen) : m__law_more_kinds [.exc "BadRow" [("row", two), ("what", one)]] q = .ok (.lst []) q := by
  simp (decide := true) [m__law_more_kinds, b__law_more_kinds, mDefQ, mDef, env0, mSeq, mSetO, mLst, aNil, aCons, mIfS, mT, mCall, mVal, mC, bind_ok, res_ok, mApp, mTup, mExf, mNext, mRet, mOp, mOwn, mFn, Res.fin, Out.ne, kAdd, mFrzS, sizeLine_eq, i_BadRow_BadNumber, i_BadRow_BadRow, i_BadRow_BadTable, i_BadRow_BadWeb, i_BadRow_BadLot, i_BadRow_BadName, i_BadRow_BadText, i_BadRow_NoPlace, i_BadRow_NoName, i_BadRow_TakenName, i_BadRow_Unlike, i_BadRow_NotThere, i_BadRow_TooMany, i_BadRow_NotKept, i_BadRow_NothingToUndo, i_BadRow_NothingToRedo, in_BadRow.1]
theorem kk_BadRow (one two : D) (y : Str) (hr : kRepr [two] = some (.str y)) (q : Pen) : m__law_kinds [.exc "BadRow" [("row", two), ("what", one)]] q = .ok (.lst [.tup [.str "row", one, .str y]]) q := by
  have l0 : List.lookup ("what" : Str) [("row", two), ("what", one)] = some one := by rw [look_put', if_neg (by decide), look_put', if_pos rfl]
  have l1 : List.lookup ("row" : Str) [("row", two), ("what", one)] = some two := by rw [look_put', if_pos rfl]
  have mk := mk_BadRow one two y hr q
  simp (decide := true) [m__law_kinds, b__law_kinds, mDefQ, mDef, env0, mSeq, mSetO, mLst, aNil, aCons, mIfS, mT, mCall, mVal, mC, bind_ok, res_ok, mApp, mTup, mExf, mNext, mRet, mOp, mOwn, mFn, Res.fin, Out.ne, kAdd, mFrzS, sizeLine_eq, i_BadRow_BadNumber, i_BadRow_BadRow, i_BadRow_BadTable, i_BadRow_BadWeb, i_BadRow_BadLot, i_BadRow_BadName, i_BadRow_BadText, i_BadRow_NoPlace, i_BadRow_NoName, i_BadRow_TakenName, i_BadRow_Unlike, i_BadRow_NotThere, i_BadRow_TooMany, i_BadRow_NotKept, i_BadRow_NothingToUndo, i_BadRow_NothingToRedo, in_BadRow.1, mk, l0, l1, hr]
theorem fault_BadRow (one two : D) (y : Str) (hr : kRepr [two] = some (.str y)) (n0 : one.noX = true) (c0 : one.noC = true) (n1 : two.noX = true) (c1 : two.noC = true) {cb : EM} {env : Env} {q q2 : Pen} (h : cb (frzE env) q = .err ⟨"BadRow", [("row", two), ("what", one)]⟩ q2) : mLam 3 b__law_fault cb env q = .ok (.tup [.str "row", one, .str y]) q2 := by
  have kk := kk_BadRow one two y hr q2
  simp (decide := true) [b__law_fault, mLam, env0, mSeq, mSet, mSetO, mLst, aNil, aCons, mIfS, mIf, mTAnd, mT, mCall, mVal, mC, bind_ok, bind_err, res_ok, res_err, mTup, mNext, mRet, mOp, mFn, Res.fin, Out.ne, sizeLine_eq, gNm, eq_int, mDrop, mTry, Slot.noX, D.noX, D.noXs, D.noXf, D.noC, D.noCs, mClo, len_lst, len_tup, kIx, D.items, L2.atI, ixN, h, kk, iv_BadRow, in_BadRow.1, n0, c0, n1, c1]
theorem i_Unlike_BadNumber (fs : List (Str × D)) : kIsi objL exL ask [.exc "Unlike" fs, .fn "BadNumber"] = some (.bl false) := (isi_exc in_Unlike.1 in_Unlike.2 in_BadNumber.2).trans (by rw [show subB "Unlike" "BadNumber" = false by decide +kernel])
theorem i_Unlike_BadRow (fs : List (Str × D)) : kIsi objL exL ask [.exc "Unlike" fs, .fn "BadRow"] = some (.bl false) := (isi_exc in_Unlike.1 in_Unlike.2 in_BadRow.2).trans (by rw [show subB "Unlike" "BadRow" = false by decide +kernel])
theorem i_Unlike_BadTable (fs : List (Str × D)) : kIsi objL exL ask [.exc "Unlike" fs, .fn "BadTable"] = some (.bl false) := (isi_exc in_Unlike.1 in_Unlike.2 in_BadTable.2).trans (by rw [show subB "Unlike" "BadTable" = false by decide +kernel])
theorem i_Unlike_BadWeb (fs : List (Str × D)) : kIsi objL exL ask [.exc "Unlike" fs, .fn "BadWeb"] = some (.bl false) := (isi_exc in_Unlike.1 in_Unlike.2 in_BadWeb.2).trans (by rw [show subB "Unlike" "BadWeb" = false by decide +kernel])
theorem i_Unlike_BadLot (fs : List (Str × D)) : kIsi objL exL ask [.exc "Unlike" fs, .fn "BadLot"] = some (.bl false) := (isi_exc in_Unlike.1 in_Unlike.2 in_BadLot.2).trans (by rw [show subB "Unlike" "BadLot" = false by decide +kernel])
theorem i_Unlike_BadName (fs : List (Str × D)) : kIsi objL exL ask [.exc "Unlike" fs, .fn "BadName"] = some (.bl false) := (isi_exc in_Unlike.1 in_Unlike.2 in_BadName.2).trans (by rw [show subB "Unlike" "BadName" = false by decide +kernel])
theorem i_Unlike_BadText (fs : List (Str × D)) : kIsi objL exL ask [.exc "Unlike" fs, .fn "BadText"] = some (.bl false) := (isi_exc in_Unlike.1 in_Unlike.2 in_BadText.2).trans (by rw [show subB "Unlike" "BadText" = false by decide +kernel])
theorem i_Unlike_NoPlace (fs : List (Str × D)) : kIsi objL exL ask [.exc "Unlike" fs, .fn "NoPlace"] = some (.bl false) := (isi_exc in_Unlike.1 in_Unlike.2 in_NoPlace.2).trans (by rw [show subB "Unlike" "NoPlace" = false by decide +kernel])
theorem i_Unlike_NoName (fs : List (Str × D)) : kIsi objL exL ask [.exc "Unlike" fs, .fn "NoName"] = some (.bl false) := (isi_exc in_Unlike.1 in_Unlike.2 in_NoName.2).trans (by rw [show subB "Unlike" "NoName" = false by decide +kernel])
theorem i_Unlike_TakenName (fs : List (Str × D)) : kIsi objL exL ask [.exc "Unlike" fs, .fn "TakenName"] = some (.bl false) := (isi_exc in_Unlike.1 in_Unlike.2 in_TakenName.2).trans (by rw [show subB "Unlike" "TakenName" = false by decide +kernel])
theorem i_Unlike_Unlike (fs : List (Str × D)) : kIsi objL exL ask [.exc "Unlike" fs, .fn "Unlike"] = some (.bl true) := (isi_exc in_Unlike.1 in_Unlike.2 in_Unlike.2).trans (by rw [show subB "Unlike" "Unlike" = true by decide +kernel])
theorem i_Unlike_NotThere (fs : List (Str × D)) : kIsi objL exL ask [.exc "Unlike" fs, .fn "NotThere"] = some (.bl false) := (isi_exc in_Unlike.1 in_Unlike.2 in_NotThere.2).trans (by rw [show subB "Unlike" "NotThere" = false by decide +kernel])
theorem i_Unlike_TooMany (fs : List (Str × D)) : kIsi objL exL ask [.exc "Unlike" fs, .fn "TooMany"] = some (.bl false) := (isi_exc in_Unlike.1 in_Unlike.2 in_TooMany.2).trans (by rw [show subB "Unlike" "TooMany" = false by decide +kernel])
theorem i_Unlike_NotKept (fs : List (Str × D)) : kIsi objL exL ask [.exc "Unlike" fs, .fn "NotKept"] = some (.bl false) := (isi_exc in_Unlike.1 in_Unlike.2 in_NotKept.2).trans (by rw [show subB "Unlike" "NotKept" = false by decide +kernel])
theorem i_Unlike_NothingToUndo (fs : List (Str × D)) : kIsi objL exL ask [.exc "Unlike" fs, .fn "NothingToUndo"] = some (.bl false) := (isi_exc in_Unlike.1 in_Unlike.2 in_NothingToUndo.2).trans (by rw [show subB "Unlike" "NothingToUndo" = false by decide +kernel])
theorem i_Unlike_NothingToRedo (fs : List (Str × D)) : kIsi objL exL ask [.exc "Unlike" fs, .fn "NothingToRedo"] = some (.bl false) := (isi_exc in_Unlike.1 in_Unlike.2 in_NothingToRedo.2).trans (by rw [show subB "Unlike" "NothingToRedo" = false by decide +kernel])
theorem iv_Unlike (fs : List (Str × D)) : kIsi objL exL ask [.exc "Unlike" fs, .ty "ValueError"] = some (.bl true) := (isi_ve in_Unlike.1 in_Unlike.2).trans (by rw [show isTB "Unlike" "ValueError" = true by decide +kernel])
theorem mk_Unlike (one : D) (q : Pen) : m__law_more_kinds [.exc "Unlike" [("what", one)]] q = .ok (.lst [.tup [.str "unlike", one]]) q := by
  have l0 : List.lookup ("what" : Str) [("what", one)] = some one := by rw [look_put', if_pos rfl]
  simp (decide := true) [m__law_more_kinds, b__law_more_kinds, mDefQ, mDef, env0, mSeq, mSetO, mLst, aNil, aCons, mIfS, mT, mCall, mVal, mC, bind_ok, res_ok, mApp, mTup, mExf, mNext, mRet, mOp, mOwn, mFn, Res.fin, Out.ne, kAdd, mFrzS, sizeLine_eq, i_Unlike_BadNumber, i_Unlike_BadRow, i_Unlike_BadTable, i_Unlike_BadWeb, i_Unlike_BadLot, i_Unlike_BadName, i_Unlike_BadText, i_Unlike_NoPlace, i_Unlike_NoName, i_Unlike_TakenName, i_Unlike_Unlike, i_Unlike_NotThere, i_Unlike_TooMany, i_Unlike_NotKept, i_Unlike_NothingToUndo, i_Unlike_NothingToRedo, in_Unlike.1, l0]
theorem kk_Unlike (one : D) (q : Pen) : m__law_kinds [.exc "Unlike" [("what", one)]] q = .ok (.lst [.tup [.str "unlike", one]]) q := by
  have mk := mk_Unlike one q
  simp (decide := true) [m__law_kinds, b__law_kinds, mDefQ, mDef, env0, mSeq, mSetO, mLst, aNil, aCons, mIfS, mT, mCall, mVal, mC, bind_ok, res_ok, mApp, mTup, mExf, mNext, mRet, mOp, mOwn, mFn, Res.fin, Out.ne, kAdd, mFrzS, sizeLine_eq, i_Unlike_BadNumber, i_Unlike_BadRow, i_Unlike_BadTable, i_Unlike_BadWeb, i_Unlike_BadLot, i_Unlike_BadName, i_Unlike_BadText, i_Unlike_NoPlace, i_Unlike_NoName, i_Unlike_TakenName, i_Unlike_Unlike, i_Unlike_NotThere, i_Unlike_TooMany, i_Unlike_NotKept, i_Unlike_NothingToUndo, i_Unlike_NothingToRedo, in_Unlike.1, mk]
theorem fault_Unlike (one : D) (n0 : one.noX = true) (c0 : one.noC = true) {cb : EM} {env : Env} {q q2 : Pen} (h : cb (frzE env) q = .err ⟨"Unlike", [("what", one)]⟩ q2) : mLam 3 b__law_fault cb env q = .ok (.tup [.str "unlike", one]) q2 := by
  have kk := kk_Unlike one q2
  simp (decide := true) [b__law_fault, mLam, env0, mSeq, mSet, mSetO, mLst, aNil, aCons, mIfS, mIf, mTAnd, mT, mCall, mVal, mC, bind_ok, bind_err, res_ok, res_err, mTup, mNext, mRet, mOp, mFn, Res.fin, Out.ne, sizeLine_eq, gNm, eq_int, mDrop, mTry, Slot.noX, D.noX, D.noXs, D.noXf, D.noC, D.noCs, mClo, len_lst, len_tup, kIx, D.items, L2.atI, ixN, h, kk, iv_Unlike, in_Unlike.1, n0, c0]
theorem i_TooMany_BadNumber (fs : List (Str × D)) : kIsi objL exL ask [.exc "TooMany" fs, .fn "BadNumber"] = some (.bl false) := (isi_exc in_TooMany.1 in_TooMany.2 in_BadNumber.2).trans (by rw [show subB "TooMany" "BadNumber" = false by decide +kernel])
theorem i_TooMany_BadRow (fs : List (Str × D)) : kIsi objL exL ask [.exc "TooMany" fs, .fn "BadRow"] = some (.bl false) := (isi_exc in_TooMany.1 in_TooMany.2 in_BadRow.2).trans (by rw [show subB "TooMany" "BadRow" = false by decide +kernel])
theorem i_TooMany_BadTable (fs : List (Str × D)) : kIsi objL exL ask [.exc "TooMany" fs, .fn "BadTable"] = some (.bl false) := (isi_exc in_TooMany.1 in_TooMany.2 in_BadTable.2).trans (by rw [show subB "TooMany" "BadTable" = false by decide +kernel])
theorem i_TooMany_BadWeb (fs : List (Str × D)) : kIsi objL exL ask [.exc "TooMany" fs, .fn "BadWeb"] = some (.bl false) := (isi_exc in_TooMany.1 in_TooMany.2 in_BadWeb.2).trans (by rw [show subB "TooMany" "BadWeb" = false by decide +kernel])
theorem i_TooMany_BadLot (fs : List (Str × D)) : kIsi objL exL ask [.exc "TooMany" fs, .fn "BadLot"] = some (.bl false) := (isi_exc in_TooMany.1 in_TooMany.2 in_BadLot.2).trans (by rw [show subB "TooMany" "BadLot" = false by decide +kernel])
theorem i_TooMany_BadName (fs : List (Str × D)) : kIsi objL exL ask [.exc "TooMany" fs, .fn "BadName"] = some (.bl false) := (isi_exc in_TooMany.1 in_TooMany.2 in_BadName.2).trans (by rw [show subB "TooMany" "BadName" = false by decide +kernel])
theorem i_TooMany_BadText (fs : List (Str × D)) : kIsi objL exL ask [.exc "TooMany" fs, .fn "BadText"] = some (.bl false) := (isi_exc in_TooMany.1 in_TooMany.2 in_BadText.2).trans (by rw [show subB "TooMany" "BadText" = false by decide +kernel])
theorem i_TooMany_NoPlace (fs : List (Str × D)) : kIsi objL exL ask [.exc "TooMany" fs, .fn "NoPlace"] = some (.bl false) := (isi_exc in_TooMany.1 in_TooMany.2 in_NoPlace.2).trans (by rw [show subB "TooMany" "NoPlace" = false by decide +kernel])
theorem i_TooMany_NoName (fs : List (Str × D)) : kIsi objL exL ask [.exc "TooMany" fs, .fn "NoName"] = some (.bl false) := (isi_exc in_TooMany.1 in_TooMany.2 in_NoName.2).trans (by rw [show subB "TooMany" "NoName" = false by decide +kernel])
theorem i_TooMany_TakenName (fs : List (Str × D)) : kIsi objL exL ask [.exc "TooMany" fs, .fn "TakenName"] = some (.bl false) := (isi_exc in_TooMany.1 in_TooMany.2 in_TakenName.2).trans (by rw [show subB "TooMany" "TakenName" = false by decide +kernel])
theorem i_TooMany_Unlike (fs : List (Str × D)) : kIsi objL exL ask [.exc "TooMany" fs, .fn "Unlike"] = some (.bl false) := (isi_exc in_TooMany.1 in_TooMany.2 in_Unlike.2).trans (by rw [show subB "TooMany" "Unlike" = false by decide +kernel])
theorem i_TooMany_NotThere (fs : List (Str × D)) : kIsi objL exL ask [.exc "TooMany" fs, .fn "NotThere"] = some (.bl false) := (isi_exc in_TooMany.1 in_TooMany.2 in_NotThere.2).trans (by rw [show subB "TooMany" "NotThere" = false by decide +kernel])
theorem i_TooMany_TooMany (fs : List (Str × D)) : kIsi objL exL ask [.exc "TooMany" fs, .fn "TooMany"] = some (.bl true) := (isi_exc in_TooMany.1 in_TooMany.2 in_TooMany.2).trans (by rw [show subB "TooMany" "TooMany" = true by decide +kernel])
theorem i_TooMany_NotKept (fs : List (Str × D)) : kIsi objL exL ask [.exc "TooMany" fs, .fn "NotKept"] = some (.bl false) := (isi_exc in_TooMany.1 in_TooMany.2 in_NotKept.2).trans (by rw [show subB "TooMany" "NotKept" = false by decide +kernel])
theorem i_TooMany_NothingToUndo (fs : List (Str × D)) : kIsi objL exL ask [.exc "TooMany" fs, .fn "NothingToUndo"] = some (.bl false) := (isi_exc in_TooMany.1 in_TooMany.2 in_NothingToUndo.2).trans (by rw [show subB "TooMany" "NothingToUndo" = false by decide +kernel])
theorem i_TooMany_NothingToRedo (fs : List (Str × D)) : kIsi objL exL ask [.exc "TooMany" fs, .fn "NothingToRedo"] = some (.bl false) := (isi_exc in_TooMany.1 in_TooMany.2 in_NothingToRedo.2).trans (by rw [show subB "TooMany" "NothingToRedo" = false by decide +kernel])
theorem iv_TooMany (fs : List (Str × D)) : kIsi objL exL ask [.exc "TooMany" fs, .ty "ValueError"] = some (.bl true) := (isi_ve in_TooMany.1 in_TooMany.2).trans (by rw [show isTB "TooMany" "ValueError" = true by decide +kernel])
theorem mk_TooMany (one two three : D) (q : Pen) : m__law_more_kinds [.exc "TooMany" [("limit", three), ("many", two), ("what", one)]] q = .ok (.lst [.tup [.str "many", one, two, three]]) q := by
  have l0 : List.lookup ("what" : Str) [("limit", three), ("many", two), ("what", one)] = some one := by rw [look_put', if_neg (by decide), look_put', if_neg (by decide), look_put', if_pos rfl]
  have l1 : List.lookup ("many" : Str) [("limit", three), ("many", two), ("what", one)] = some two := by rw [look_put', if_neg (by decide), look_put', if_pos rfl]
  have l2 : List.lookup ("limit" : Str) [("limit", three), ("many", two), ("what", one)] = some three := by rw [look_put', if_pos rfl]
  simp (decide := true) [m__law_more_kinds, b__law_more_kinds, mDefQ, mDef, env0, mSeq, mSetO, mLst, aNil, aCons, mIfS, mT, mCall, mVal, mC, bind_ok, res_ok, mApp, mTup, mExf, mNext, mRet, mOp, mOwn, mFn, Res.fin, Out.ne, kAdd, mFrzS, sizeLine_eq, i_TooMany_BadNumber, i_TooMany_BadRow, i_TooMany_BadTable, i_TooMany_BadWeb, i_TooMany_BadLot, i_TooMany_BadName, i_TooMany_BadText, i_TooMany_NoPlace, i_TooMany_NoName, i_TooMany_TakenName, i_TooMany_Unlike, i_TooMany_NotThere, i_TooMany_TooMany, i_TooMany_NotKept, i_TooMany_NothingToUndo, i_TooMany_NothingToRedo, in_TooMany.1, l0, l1, l2]
theorem kk_TooMany (one two three : D) (q : Pen) : m__law_kinds [.exc "TooMany" [("limit", three), ("many", two), ("what", one)]] q = .ok (.lst [.tup [.str "many", one, two, three]]) q := by
  have mk := mk_TooMany one two three q
  simp (decide := true) [m__law_kinds, b__law_kinds, mDefQ, mDef, env0, mSeq, mSetO, mLst, aNil, aCons, mIfS, mT, mCall, mVal, mC, bind_ok, res_ok, mApp, mTup, mExf, mNext, mRet, mOp, mOwn, mFn, Res.fin, Out.ne, kAdd, mFrzS, sizeLine_eq, i_TooMany_BadNumber, i_TooMany_BadRow, i_TooMany_BadTable, i_TooMany_BadWeb, i_TooMany_BadLot, i_TooMany_BadName, i_TooMany_BadText, i_TooMany_NoPlace, i_TooMany_NoName, i_TooMany_TakenName, i_TooMany_Unlike, i_TooMany_NotThere, i_TooMany_TooMany, i_TooMany_NotKept, i_TooMany_NothingToUndo, i_TooMany_NothingToRedo, in_TooMany.1, mk]
theorem fault_TooMany (one two three : D) (n0 : one.noX = true) (c0 : one.noC = true) (n1 : two.noX = true) (c1 : two.noC = true) (n2 : three.noX = true) (c2 : three.noC = true) {cb : EM} {env : Env} {q q2 : Pen} (h : cb (frzE env) q = .err ⟨"TooMany", [("limit", three), ("many", two), ("what", one)]⟩ q2) : mLam 3 b__law_fault cb env q = .ok (.tup [.str "many", one, two, three]) q2 := by
  have kk := kk_TooMany one two three q2
  simp (decide := true) [b__law_fault, mLam, env0, mSeq, mSet, mSetO, mLst, aNil, aCons, mIfS, mIf, mTAnd, mT, mCall, mVal, mC, bind_ok, bind_err, res_ok, res_err, mTup, mNext, mRet, mOp, mFn, Res.fin, Out.ne, sizeLine_eq, gNm, eq_int, mDrop, mTry, Slot.noX, D.noX, D.noXs, D.noXf, D.noC, D.noCs, mClo, len_lst, len_tup, kIx, D.items, L2.atI, ixN, h, kk, iv_TooMany, in_TooMany.1, n0, c0, n1, c1, n2, c2]
end Lw
end Pu
end

section
set_option maxHeartbeats 4000000
namespace Pu
namespace Lw
open PySem PySem.Spec PyProof.Rows L2
theorem m_isinteger (i : Int) (q : Pen) : m_is_integer [.int i] q = .ok (.bl true) q := m_integer rfl q
/-- a tie as it must be -/
def okT (m : Int) (p : Int × Int) : Prop := 0 ≤ p.1 ∧ p.1 < p.2 ∧ p.2 < m
def webD (m : Int) (ts : List (Int × Int)) : D := .obj "Web" [("many", .int m), ("ties", prsD ts)]
structure OkW (m : Int) (ts : List (Int × Int)) : Prop where
  m1 : 1 ≤ m
  m2 : m ≤ 16
  t : ∀ p ∈ ts, okT m p
  l : ts.length ≤ 12
theorem m_tie {m : Int} {p : Int × Int} (h : okT m p) (q : Pen) : m_is_tie [prD p, .int m] q = .ok (.bl true) q := by
  obtain ⟨a, b⟩ := p
  obtain ⟨h1, h2, h3⟩ := h
  simp only at h1 h2 h3
  have e1 := m_list (d := prD (a, b)) rfl q
  have i1 : isIx m (.int a) = true := by simp [isIx]; omega
  have i2 : isIx m (.int b) = true := by simp [isIx]; omega
  have hc : mComp (mIt (mVal 0)) [2] (gNm 2) tmYes (mFn m_is_index (aCons (mVal 2) (aCons (mVal 1) aNil))) [.val (prD (a, b)), .val (.int m), .un] q = .ok ([D.int a, D.int b].map fun d => .bl (isIx m d)) q := comp_map _ rfl (by simp [sizeLine_eq]) fun d hd => ⟨_, rfl, by
    have hb : d.bs = true := by
      simp only [List.mem_cons, List.not_mem_nil, or_false] at hd
      rcases hd with rfl | rfl <;> rfl
    simp -implicitDefEqProofs [mDef, env0, env1, mDefI, mSeq, mSet, mSetO, mIfS, mTAnd, mTOr, mTNot, mT, mV, mIf, mOp, mChain, mCall, mFn, mFCall, mFr, mTup, mLst, aCons, aNil, mVal, mOwn, mC, mNeg, mNext, mRet, mDrop, bind_ok, bind_err, res_ok, res_err, Res.fin, Out.ne, gNm, gTp, gsCons, gsNil, mIt, mRng1, mSl, oNone, oSome, kInt, add_int, len_tup, len_lst, tuple_lst, tuple_tup, mMk, mIn, mFlds, putD, mChk, mDo, mRaise, mApp, mAppPop, mSetIx, mLRg, mRg1, mTRg, mRg2, mPar2, sVal, sOwn, sNil, D.isFn, sizeLine_eq, eq_int, ne_int, wipeE, m_index hb]⟩
  have ha : kAll [.lst [.bl true, .bl true]] = some (.bl true) := rfl
  have e0 : kLen [prD (a, b)] = some (.int 2) := rfl
  have x0 : kIx (prD (a, b)) (.int 0) = some (.int a) := rfl
  have x1 : kIx (prD (a, b)) (.int 1) = some (.int b) := rfl
  have hl : D.isL (prD (a, b)) = true := rfl
  simp -implicitDefEqProofs [mDef, env0, env1, mDefI, mSeq, mSet, mSetO, mIfS, mTAnd, mTOr, mTNot, mT, mV, mIf, mOp, mChain, mCall, mFn, mFCall, mFr, mTup, mLst, aCons, aNil, mVal, mOwn, mC, mNeg, mNext, mRet, mDrop, bind_ok, bind_err, res_ok, res_err, Res.fin, Out.ne, gNm, gTp, gsCons, gsNil, mIt, mRng1, mSl, oNone, oSome, kInt, add_int, len_tup, len_lst, tuple_lst, tuple_tup, mMk, mIn, mFlds, putD, mChk, mDo, mRaise, mApp, mAppPop, mSetIx, mLRg, mRg1, mTRg, mRg2, mPar2, sVal, sOwn, sNil, D.isFn, sizeLine_eq, eq_int, ne_int, wipeE, m_is_tie, b_is_tie, e1, hc, ha, e0, x0, x1, h2, hl, i1, i2]
theorem m_init {m : Int} {ts : List (Int × Int)} (w : OkW m ts) (q : Pen) : m_Web___init__ [.int m, prsD ts] q = .ok [("many", .int m), ("ties", prsD ts)] q := by
  have e1 := m_list (d := prsD ts) rfl q
  have hl : D.isL (prsD ts) = true := rfl
  have hc : mComp (mIt (mVal 2)) [3] (gNm 3) tmYes (mFn m_is_tie (aCons (mVal 3) (aCons (mVal 1) aNil))) [.un, .val (.int m), .val (prsD ts), .un] q = .ok (ts.map fun _ => .bl true) q := comp_ofM prD _ rfl (by have := w.l; rw [sizeLine_eq]; omega) fun p hp => ⟨_, rfl, by
    simp -implicitDefEqProofs [mDef, env0, env1, mDefI, mSeq, mSet, mSetO, mIfS, mTAnd, mTOr, mTNot, mT, mV, mIf, mOp, mChain, mCall, mFn, mFCall, mFr, mTup, mLst, aCons, aNil, mVal, mOwn, mC, mNeg, mNext, mRet, mDrop, bind_ok, bind_err, res_ok, res_err, Res.fin, Out.ne, gNm, gTp, gsCons, gsNil, mIt, mRng1, mSl, oNone, oSome, kInt, add_int, len_tup, len_lst, tuple_lst, tuple_tup, mMk, mIn, mFlds, putD, mChk, mDo, mRaise, mApp, mAppPop, mSetIx, mLRg, mRg1, mTRg, mRg2, mPar2, sVal, sOwn, sNil, D.isFn, sizeLine_eq, eq_int, ne_int, wipeE, m_tie (w.t p hp)]⟩
  have ha : kAll [.lst (ts.map fun _ => D.bl true)] = some (.bl true) := by
    rw [all_map (fun _ => true) ts]
    simp
  have e0 : kLen [prsD ts] = some (.int ts.length) := by simp [prsD, kLen]
  have hm1 := w.m1
  have hm2 := w.m2
  have hl2 := w.l
  have as := as_prs 5 (ts := ts) (by rw [sizeLine_eq]; omega) q
  simp -implicitDefEqProofs [mDef, env0, env1, mDefI, mSeq, mSet, mSetO, mIfS, mTAnd, mTOr, mTNot, mT, mV, mIf, mOp, mChain, mCall, mFn, mFCall, mFr, mTup, mLst, aCons, aNil, mVal, mOwn, mC, mNeg, mNext, mRet, mDrop, bind_ok, bind_err, res_ok, res_err, Res.fin, Out.ne, gNm, gTp, gsCons, gsNil, mIt, mRng1, mSl, oNone, oSome, kInt, add_int, len_tup, len_lst, tuple_lst, tuple_tup, mMk, mIn, mFlds, putD, mChk, mDo, mRaise, mApp, mAppPop, mSetIx, mLRg, mRg1, mTRg, mRg2, mPar2, sVal, sOwn, sNil, D.isFn, sizeLine_eq, eq_int, ne_int, wipeE, show ¬ ("many" : Str) = "ties" by decide +kernel, m_Web___init__, b_Web___init__, e1, hl, hc, ha, e0, m_isinteger, hm1, hm2, as, show ¬ (12 < (ts.length : Int)) by omega, show (ts.length : Int) ≤ 12 by omega]
theorem mk_web {m : Int} {ts : List (Int × Int)} (w : OkW m ts) {a : AM} {env : Env} {q q2 : Pen} (h : a env q = .ok [.int m, prsD ts] q2) : mMk "Web" m_Web___init__ a env q = .ok (webD m ts) q2 := by
  unfold mMk
  rw [h, bind_ok, m_init w q2]
  rfl
theorem lk_many (x y : D) : List.lookup ("many" : Str) [("many", x), ("ties", y)] = some x := by
  rw [List.lookup_cons, show (("many" : Str) == "many") = true by decide +kernel]
theorem lk_ties (x y : D) : List.lookup ("ties" : Str) [("many", x), ("ties", y)] = some y := by
  rw [List.lookup_cons, show (("ties" : Str) == "many") = false by decide +kernel, List.lookup_cons, show (("ties" : Str) == "ties") = true by decide +kernel]
theorem fld_m {m : Int} {ts : List (Int × Int)} {e : EM} {env : Env} {q q2 : Pen} (h : e env q = .ok (webD m ts) q2) : mFld fl_many "many" e env q = .ok (.int m) q2 := by
  have e2 : ("Web" : Str) ∈ fl_many := by decide +kernel
  simp only [mFld, h, bind_ok, webD, if_pos e2, lk_many]
theorem fld_t {m : Int} {ts : List (Int × Int)} {e : EM} {env : Env} {q q2 : Pen} (h : e env q = .ok (webD m ts) q2) : mFld fl_ties "ties" e env q = .ok (prsD ts) q2 := by
  have e2 : ("Web" : Str) ∈ fl_ties := by decide +kernel
  simp only [mFld, h, bind_ok, webD, if_pos e2, lk_ties]
theorem m_eq (m : Int) (ts : List (Int × Int)) (q : Pen) : m_Web___eq__ [webD m ts, webD m ts] q = .ok (.bl true) q := by
  have hi : kIsi objL exL ask [webD m ts, .fn "Web"] = some (.bl true) := by
    show (if ("Web" : Str) ∈ objL then (ask (.inr "Web") (.fn "Web")).map D.bl else none) = _
    rw [if_pos (by decide +kernel)]
    show (if ("Web" : Str) ∈ clL ∧ ("Web" : Str) ∈ clL then some (subB "Web" "Web") else none).map D.bl = _
    rw [if_pos (by decide +kernel), show subB "Web" "Web" = true by decide +kernel]
    rfl
  have f0 : mFld fl_many "many" (mVal 0) [.val (webD m ts), .val (webD m ts)] q = _ := fld_m rfl
  have f1 : mFld fl_many "many" (mVal 1) [.val (webD m ts), .val (webD m ts)] q = _ := fld_m rfl
  have t0 : mFld fl_ties "ties" (mVal 0) [.val (webD m ts), .val (webD m ts)] q = _ := fld_t rfl
  have t1 : mFld fl_ties "ties" (mVal 1) [.val (webD m ts), .val (webD m ts)] q = _ := fld_t rfl
  have ee := eq_refl (prs_shaped ts)
  simp -implicitDefEqProofs [mDef, env0, env1, mDefI, mSeq, mSet, mSetO, mIfS, mTAnd, mTOr, mTNot, mT, mV, mIf, mOp, mChain, mCall, mFn, mFCall, mFr, mTup, mLst, aCons, aNil, mVal, mOwn, mC, mNeg, mNext, mRet, mDrop, bind_ok, bind_err, res_ok, res_err, Res.fin, Out.ne, gNm, gTp, gsCons, gsNil, mIt, mRng1, mSl, oNone, oSome, kInt, add_int, len_tup, len_lst, tuple_lst, tuple_tup, mMk, mIn, mFlds, putD, mChk, mDo, mRaise, mApp, mAppPop, mSetIx, mLRg, mRg1, mTRg, mRg2, mPar2, sVal, sOwn, sNil, D.isFn, sizeLine_eq, eq_int, ne_int, wipeE, m_Web___eq__, b_Web___eq__, hi, f0, f1, t0, t1, ee]
theorem kf_m (m : Int) (ts : List (Int × Int)) (q : Pen) : kFld fl_many "many" (webD m ts) q = .ok (.int m) q := fld_m (e := fun _ q => .ok (webD m ts) q) (env := []) rfl
theorem kf_t (m : Int) (ts : List (Int × Int)) (q : Pen) : kFld fl_ties "ties" (webD m ts) q = .ok (prsD ts) q := fld_t (e := fun _ q => .ok (webD m ts) q) (env := []) rfl
theorem mk_w {m : Int} {ts : List (Int × Int)} (w : OkW m ts) (q : Pen) : ((m_Web___init__ [.int m, prsD ts] q).bind fun fs q2 => .ok (.obj "Web" fs) q2) = .ok (webD m ts) q := by
  rw [m_init w]
  rfl
theorem m_indexes {d : D} {ns : List Int} (hd : d = .lst (ns.map D.int) ∨ d = .tup (ns.map D.int)) (hl : ns.length ≤ sizeLine) (n : Int) (q : Pen) : m_is_indexes [d, .int n] q = .ok (.bl (decide ((ns.length : Int) = n))) q := by
  have hb : d.bs = true := by rcases hd with rfl | rfl <;> rfl
  have hL : d.isL = true := by rcases hd with rfl | rfl <;> rfl
  have e1 := m_list hb q
  have e2 : kLen [d] = some (.int ns.length) := by rcases hd with rfl | rfl <;> simp [kLen]
  have hc : mComp (mIt (mVal 0)) [2] (gNm 2) tmYes (mFn m_is_integer (aCons (mVal 2) aNil)) [.val d, .val (.int n), .un] q = .ok (ns.map fun _ => .bl true) q := by
    refine comp_ofM D.int _ ?_ hl fun x hx => ⟨_, rfl, by simp -implicitDefEqProofs [mDef, env0, env1, mDefI, mSeq, mSet, mSetO, mIfS, mTAnd, mTOr, mTNot, mT, mV, mIf, mOp, mChain, mCall, mFn, mFCall, mFr, mTup, mLst, aCons, aNil, mVal, mOwn, mC, mNeg, mNext, mRet, mDrop, bind_ok, bind_err, res_ok, res_err, Res.fin, Out.ne, gNm, gTp, gsCons, gsNil, mIt, mRng1, mSl, oNone, oSome, kInt, add_int, len_tup, len_lst, tuple_lst, tuple_tup, mMk, mIn, mFlds, putD, mChk, mDo, mRaise, mApp, mAppPop, mSetIx, mLRg, mRg1, mTRg, mRg2, mPar2, sVal, sOwn, sNil, D.isFn, sizeLine_eq, eq_int, ne_int, wipeE, m_isinteger]⟩
    rcases hd with rfl | rfl <;> rfl
  have ha : kAll [.lst (ns.map fun _ => D.bl true)] = some (.bl true) := by
    rw [all_map (fun _ => true) ns]
    simp
  by_cases h : (ns.length : Int) = n
  · simp -implicitDefEqProofs [mDef, env0, env1, mDefI, mSeq, mSet, mSetO, mIfS, mTAnd, mTOr, mTNot, mT, mV, mIf, mOp, mChain, mCall, mFn, mFCall, mFr, mTup, mLst, aCons, aNil, mVal, mOwn, mC, mNeg, mNext, mRet, mDrop, bind_ok, bind_err, res_ok, res_err, Res.fin, Out.ne, gNm, gTp, gsCons, gsNil, mIt, mRng1, mSl, oNone, oSome, kInt, add_int, len_tup, len_lst, tuple_lst, tuple_tup, mMk, mIn, mFlds, putD, mChk, mDo, mRaise, mApp, mAppPop, mSetIx, mLRg, mRg1, mTRg, mRg2, mPar2, sVal, sOwn, sNil, D.isFn, sizeLine_eq, eq_int, ne_int, wipeE, m_is_indexes, b_is_indexes, e1, e2, hL, hc, ha, h]
  · simp -implicitDefEqProofs [mDef, env0, env1, mDefI, mSeq, mSet, mSetO, mIfS, mTAnd, mTOr, mTNot, mT, mV, mIf, mOp, mChain, mCall, mFn, mFCall, mFr, mTup, mLst, aCons, aNil, mVal, mOwn, mC, mNeg, mNext, mRet, mDrop, bind_ok, bind_err, res_ok, res_err, Res.fin, Out.ne, gNm, gTp, gsCons, gsNil, mIt, mRng1, mSl, oNone, oSome, kInt, add_int, len_tup, len_lst, tuple_lst, tuple_tup, mMk, mIn, mFlds, putD, mChk, mDo, mRaise, mApp, mAppPop, mSetIx, mLRg, mRg1, mTRg, mRg2, mPar2, sVal, sOwn, sNil, D.isFn, sizeLine_eq, eq_int, ne_int, wipeE, m_is_indexes, b_is_indexes, e1, e2, hL, hc, ha, h]
theorem m_indexes0 {d : D} (hb : d.bs = true) (hL : d.isL = false) (n : D) (q : Pen) : m_is_indexes [d, n] q = .ok (.bl false) q := by
  have e1 := m_list hb q
  simp -implicitDefEqProofs [mDef, env0, env1, mDefI, mSeq, mSet, mSetO, mIfS, mTAnd, mTOr, mTNot, mT, mV, mIf, mOp, mChain, mCall, mFn, mFCall, mFr, mTup, mLst, aCons, aNil, mVal, mOwn, mC, mNeg, mNext, mRet, mDrop, bind_ok, bind_err, res_ok, res_err, Res.fin, Out.ne, gNm, gTp, gsCons, gsNil, mIt, mRng1, mSl, oNone, oSome, kInt, add_int, len_tup, len_lst, tuple_lst, tuple_tup, mMk, mIn, mFlds, putD, mChk, mDo, mRaise, mApp, mAppPop, mSetIx, mLRg, mRg1, mTRg, mRg2, mPar2, sVal, sOwn, sNil, D.isFn, sizeLine_eq, eq_int, ne_int, wipeE, m_is_indexes, b_is_indexes, e1, hL]
theorem pop_at {es : List D} {r : Int} (h0 : 0 ≤ r) (h1 : r < es.length) (h2 : es.length ≤ 1000) : popAt es (.int r) = some (r.toNat, es[r.toNat]'(by omega)) := by
  unfold popAt
  have e : seqIndex? r es.length = some r.toNat := by
    unfold seqIndex?
    simp (decide := true) [h0, h1]
    omega
  simp only [e]
  rw [if_pos ⟨by omega, by omega⟩, List.getElem?_eq_getElem (by omega)]
  rfl
theorem er_map {α β : Type} (f : α → β) : ∀ (l : List α) (k : Nat), (l.map f).eraseIdx k = (l.eraseIdx k).map f
  | [], k => by simp
  | x :: l, 0 => rfl
  | x :: l, k + 1 => by
    show f x :: (l.map f).eraseIdx k = f x :: (l.eraseIdx k).map f
    rw [er_map f l k]
theorem get_er {α : Type} : ∀ (l : List α) (k : Nat) (h : k < l.length), (l[k] :: l.eraseIdx k).Perm l
  | x :: l, 0, _ => List.Perm.refl _
  | x :: l, k + 1, h => by
    have hk : k < l.length := by simpa using h
    show (l[k] :: x :: l.eraseIdx k).Perm (x :: l)
    exact (List.Perm.swap _ _ _).trans ((get_er l k hk).cons x)
/-- the elements in some other order -/
theorem m_shuffled {α : Type} (c : α → D) (xs : List α) (hl : xs.length ≤ 1000) (q : Pen) : ∃ (ys : List α) (q' : Pen), m__law_shuffled [.pen, .lst (xs.map c)] q = .ok (.lst (ys.map c)) q' ∧ ys.Perm xs := by
  let I : Nat → Env → Pen → Prop := fun n env _ => ∃ (ls fs : List α) (z : Slot), env = [.val .pen, .val (.lst (xs.map c)), .own (ls.map c), .own (fs.map c), z] ∧ (fs ++ ls).Perm xs ∧ fs.length = n
  have hI : I 0 [.val .pen, .val (.lst (xs.map c)), .own (xs.map c), .own [], .un] q := ⟨xs, [], .un, rfl, List.Perm.refl _, rfl⟩
  obtain ⟨e2, q2, h1, h2⟩ := loop_inv (g := gNm 4) (b := mAppPop 3 2 (mFn m__law_draw (aCons (mVal 0) (aCons (mCall kLen (aCons (mOwn 2) aNil)) aNil)))) D.int I (rgI xs.length) 0 _ q hI fun i hi env q ⟨ls, fs, z, e, hp, hn⟩ => by
    subst e
    rw [rgI_len] at hi
    have hpl := hp.length_eq
    rw [List.length_append] at hpl
    have hls : 0 < ls.length := by omega
    obtain ⟨r, q', d1, r0, r1⟩ := m_draw q ls.length (by omega) (by omega)
    have hr : r.toNat < ls.length := by omega
    refine ⟨_, rfl, [.val .pen, .val (.lst (xs.map c)), .own ((ls.eraseIdx r.toNat).map c), .own ((fs ++ [ls[r.toNat]]).map c), .val (.int (rgI xs.length)[i])], q', .inl ?_, ls.eraseIdx r.toNat, fs ++ [ls[r.toNat]], _, rfl, ?_, ?_⟩
    · have e1 := pop_at (es := ls.map c) (r := r) r0 (by rw [List.length_map]; exact r1) (by rw [List.length_map]; omega)
      simp -implicitDefEqProofs [mDef, env0, env1, mDefI, mSeq, mSet, mSetO, mIfS, mTAnd, mTOr, mTNot, mT, mV, mIf, mOp, mChain, mCall, mFn, mFCall, mFr, mTup, mLst, aCons, aNil, mVal, mOwn, mC, mNeg, mNext, mRet, mDrop, bind_ok, bind_err, res_ok, res_err, Res.fin, Out.ne, gNm, gTp, gsCons, gsNil, mIt, mRng1, mSl, oNone, oSome, kInt, add_int, len_tup, len_lst, tuple_lst, tuple_tup, mMk, mIn, mFlds, putD, mChk, mDo, mRaise, mApp, mAppPop, mSetIx, mLRg, mRg1, mTRg, mRg2, mPar2, sVal, sOwn, sNil, D.isFn, sizeLine_eq, eq_int, ne_int, wipeE, d1, e1, show fs.length < 16777216 by omega, er_map]
    · refine List.Perm.trans ?_ hp
      rw [List.append_assoc]
      refine List.Perm.append_left fs ?_
      exact get_er ls r.toNat hr
    · rw [List.length_append, hn, List.length_singleton]
  obtain ⟨ls, fs, z, e, hp, hn⟩ := h2
  subst e
  rw [rgI_len, Nat.zero_add] at hn
  have hpl := hp.length_eq
  rw [List.length_append] at hpl
  have hls : ls = [] := List.eq_nil_of_length_eq_zero (by omega)
  subst hls
  rw [List.append_nil] at hp
  refine ⟨fs, q2, ?_, hp⟩
  have hf : (mFor (mRng1 (mCall kLen (aCons (mVal 1) aNil))) (gNm 4) (mAppPop 3 2 (mFn m__law_draw (aCons (mVal 0) (aCons (mCall kLen (aCons (mOwn 2) aNil)) aNil))))) [.val .pen, .val (.lst (xs.map c)), .own (xs.map c), .own [], .un] q = _ := (for_of (rng1_int (n := xs.length) (by simp -implicitDefEqProofs [mDef, env0, env1, mDefI, mSeq, mSet, mSetO, mIfS, mTAnd, mTOr, mTNot, mT, mV, mIf, mOp, mChain, mCall, mFn, mFCall, mFr, mTup, mLst, aCons, aNil, mVal, mOwn, mC, mNeg, mNext, mRet, mDrop, bind_ok, bind_err, res_ok, res_err, Res.fin, Out.ne, gNm, gTp, gsCons, gsNil, mIt, mRng1, mSl, oNone, oSome, kInt, add_int, len_tup, len_lst, tuple_lst, tuple_tup, mMk, mIn, mFlds, putD, mChk, mDo, mRaise, mApp, mAppPop, mSetIx, mLRg, mRg1, mTRg, mRg2, mPar2, sVal, sOwn, sNil, D.isFn, sizeLine_eq, eq_int, ne_int, wipeE]) (by omega) (by omega))).trans h1
  have hk : kList [.lst (xs.map c)] = some (xs.map c) := rfl
  have e1 : b__law_shuffled [.val .pen, .val (.lst (xs.map c)), .un, .un, .un] q = .ret (.lst (fs.map c)) q2 := by
    unfold b__law_shuffled
    rw [seq_next (e2 := [.val .pen, .val (.lst (xs.map c)), .own (xs.map c), .own [], .un]) (q2 := q) (by simp -implicitDefEqProofs [mDef, env0, env1, mDefI, mSeq, mSet, mSetO, mIfS, mTAnd, mTOr, mTNot, mT, mV, mIf, mOp, mChain, mCall, mFn, mFCall, mFr, mTup, mLst, aCons, aNil, mVal, mOwn, mC, mNeg, mNext, mRet, mDrop, bind_ok, bind_err, res_ok, res_err, Res.fin, Out.ne, gNm, gTp, gsCons, gsNil, mIt, mRng1, mSl, oNone, oSome, kInt, add_int, len_tup, len_lst, tuple_lst, tuple_tup, mMk, mIn, mFlds, putD, mChk, mDo, mRaise, mApp, mAppPop, mSetIx, mLRg, mRg1, mTRg, mRg2, mPar2, sVal, sOwn, sNil, D.isFn, sizeLine_eq, eq_int, ne_int, wipeE, mPar2, sOwn, sNil, hk]), seq_next hf]
    simp -implicitDefEqProofs [mDef, env0, env1, mDefI, mSeq, mSet, mSetO, mIfS, mTAnd, mTOr, mTNot, mT, mV, mIf, mOp, mChain, mCall, mFn, mFCall, mFr, mTup, mLst, aCons, aNil, mVal, mOwn, mC, mNeg, mNext, mRet, mDrop, bind_ok, bind_err, res_ok, res_err, Res.fin, Out.ne, gNm, gTp, gsCons, gsNil, mIt, mRng1, mSl, oNone, oSome, kInt, add_int, len_tup, len_lst, tuple_lst, tuple_tup, mMk, mIn, mFlds, putD, mChk, mDo, mRaise, mApp, mAppPop, mSetIx, mLRg, mRg1, mTRg, mRg2, mPar2, sVal, sOwn, sNil, D.isFn, sizeLine_eq, eq_int, ne_int, wipeE, mFrzS]
  show (b__law_shuffled [.val .pen, .val (.lst (xs.map c)), .un, .un, .un] q).fin = _
  rw [e1]
  rfl
/-! #### drawn webs -/
abbrev bodyT : SM := (mSeq (mSet (mFn m__law_draw (aCons (mVal 0) (aCons (mOp kSub (mVal 1) (mC (.int 1))) aNil))) (gNm 5))
    (mSeq (mApp 3 (mTup (aCons (mVal 5) (aCons (mCall kInt1 (aCons (mOp kAdd (mOp kAdd (mVal 5) (mC (.int 1))) (mFn m__law_draw (aCons (mVal 0) (aCons (mOp kSub (mOp kSub (mVal 1) (mC (.int 1))) (mVal 5)) aNil)))) aNil)) aNil))))
    (mIfS (mTAnd (mT (mOp kGt (mCall kLen (aCons (mOwn 3) aNil)) (mC (.int 1)))) (mT (mOp kEq (mFn m__law_draw (aCons (mVal 0) (aCons (mC (.int 5)) aNil))) (mC (.int 0))))) (mSetIx 3 (mNeg (mC (.int 1))) (mFn m__law_pick (aCons (mVal 0) (aCons (mSl (mOwn 3) oNone (oSome (mNeg (mC (.int 1))))) aNil)))) mNext)))
theorem int1_int (i : Int) : kInt1 [.int i] = some (.int i) := rfl
theorem m_drawn_ties (m k : Int) (hm : m ≤ 1000) (h0 : 0 ≤ k) (h1 : k ≤ 1000) (q : Pen) : ∃ (ts : List (Int × Int)) (q' : Pen), m__law_drawn_ties [.pen, .int m, .int k] q = .ok (prsD ts) q' ∧ (∀ p ∈ ts, okT m p) ∧ (ts.length : Int) ≤ k := by
  let n : Nat := (if 1 < m then k else 0).toNat
  let I : Nat → Env → Pen → Prop := fun n env _ => ∃ (ts : List (Int × Int)) (a b : Slot), env = [.val .pen, .val (.int m), .val (.int k), .own (ts.map prD), a, b] ∧ (∀ p ∈ ts, okT m p) ∧ ts.length = n
  obtain ⟨e2, q2, g1, g2⟩ := loop_inv (g := gNm 4) (b := bodyT) D.int I (rgI n) 0 [.val .pen, .val (.int m), .val (.int k), .own [], .un, .un] q ⟨[], .un, .un, rfl, (fun p hp => by cases hp), rfl⟩ fun i hi env q ⟨ts, z, b, e, hp, hn⟩ => by
    subst e
    rw [rgI_len] at hi
    have hm1 : 1 < m := by
      by_cases c : 1 < m
      · exact c
      · have : n = 0 := by simp only [n]; rw [if_neg c]; rfl
        omega
    have hn2 : n ≤ 1000 := by simp only [n]; rw [if_pos hm1]; omega
    obtain ⟨a, q1, d1, a0, a1⟩ := m_draw q (m - 1) (by omega) (by omega)
    obtain ⟨r, q2, d2, r0, r1⟩ := m_draw q1 (m - 1 - a) (by omega) (by omega)
    have ok1 : okT m (a, a + 1 + r) := ⟨a0, by show a < a + 1 + r; omega, by show a + 1 + r < m; omega⟩
    have okall : ∀ p ∈ ts ++ [(a, a + 1 + r)], okT m p := fun p h => by
      rcases List.mem_append.mp h with h | h
      · exact hp p h
      · rw [List.mem_singleton.mp h]
        exact ok1
    refine ⟨_, rfl, ?_⟩
    by_cases c : 1 < (ts ++ [(a, a + 1 + r)]).length
    · have c' : 0 < ts.length := by rw [List.length_append, List.length_singleton] at c; omega
      obtain ⟨s, q3, d3, s0, s1⟩ := m_draw q2 5 (by decide) (by decide)
      by_cases hs : s = 0
      · subst hs
        have hcut : cutD ((ts.map prD) ++ [D.tup [.int a, .int (a + 1 + r)]]) none (some (-1)) = ts.map prD := by
          rw [cut_last, List.dropLast_concat]
        obtain ⟨x, q4, hx, d4⟩ := m_pick q3 (.lst (ts.map prD)) _ rfl (.inl rfl) (by rw [List.length_map]; exact c') (by rw [List.length_map]; omega)
        obtain ⟨p, hp2, rfl⟩ := List.mem_map.mp hx
        refine ⟨[.val .pen, .val (.int m), .val (.int k), .own ((ts ++ [p]).map prD), .val (.int (rgI n)[i]), .val (.int a)], q4, .inl ?_, ts ++ [p], _, _, rfl, fun p' h => ?_, by rw [List.length_append, hn]; simp⟩
        · have hx2 : ixN (ts.length + 1) (-1) = some ts.length := by
            unfold ixN
            simp
            omega
          simp -implicitDefEqProofs [mDef, env0, env1, mDefI, mSeq, mSet, mSetO, mIfS, mTAnd, mTOr, mTNot, mT, mV, mIf, mOp, mChain, mCall, mFn, mFCall, mFr, mTup, mLst, aCons, aNil, mVal, mOwn, mC, mNeg, mNext, mRet, mDrop, bind_ok, bind_err, res_ok, res_err, Res.fin, Out.ne, gNm, gTp, gsCons, gsNil, mIt, mRng1, mSl, oNone, oSome, kInt, add_int, len_tup, len_lst, tuple_lst, tuple_tup, mMk, mIn, mFlds, putD, mChk, mDo, mRaise, mApp, mAppPop, mSetIx, mLRg, mRg1, mTRg, mRg2, mPar2, sVal, sOwn, sNil, D.isFn, sizeLine_eq, eq_int, ne_int, wipeE, d1, d2, d3, d4, int1_int, show ts.length < 16777216 by omega, show (1 : Int) < ts.length + 1 by omega, kSl, hcut, hx2, List.set_append, ne_int]
        · rcases List.mem_append.mp h with h | h
          · exact hp p' h
          · rw [List.mem_singleton.mp h]
            exact hp p hp2
      · refine ⟨[.val .pen, .val (.int m), .val (.int k), .own ((ts ++ [(a, a + 1 + r)]).map prD), .val (.int (rgI n)[i]), .val (.int a)], q3, .inl ?_, ts ++ [(a, a + 1 + r)], _, _, rfl, okall, by rw [List.length_append, hn]; simp⟩
        simp -implicitDefEqProofs [mDef, env0, env1, mDefI, mSeq, mSet, mSetO, mIfS, mTAnd, mTOr, mTNot, mT, mV, mIf, mOp, mChain, mCall, mFn, mFCall, mFr, mTup, mLst, aCons, aNil, mVal, mOwn, mC, mNeg, mNext, mRet, mDrop, bind_ok, bind_err, res_ok, res_err, Res.fin, Out.ne, gNm, gTp, gsCons, gsNil, mIt, mRng1, mSl, oNone, oSome, kInt, add_int, len_tup, len_lst, tuple_lst, tuple_tup, mMk, mIn, mFlds, putD, mChk, mDo, mRaise, mApp, mAppPop, mSetIx, mLRg, mRg1, mTRg, mRg2, mPar2, sVal, sOwn, sNil, D.isFn, sizeLine_eq, eq_int, ne_int, wipeE, d1, d2, d3, int1_int, prD, show ts.length < 16777216 by omega, show (1 : Int) < ts.length + 1 by omega, hs]
    · refine ⟨[.val .pen, .val (.int m), .val (.int k), .own ((ts ++ [(a, a + 1 + r)]).map prD), .val (.int (rgI n)[i]), .val (.int a)], q2, .inl ?_, ts ++ [(a, a + 1 + r)], _, _, rfl, okall, by rw [List.length_append, hn]; simp⟩
      have c' : ts = [] := by
        rw [List.length_append, List.length_singleton] at c
        exact List.eq_nil_of_length_eq_zero (by omega)
      subst c'
      simp -implicitDefEqProofs [mDef, env0, env1, mDefI, mSeq, mSet, mSetO, mIfS, mTAnd, mTOr, mTNot, mT, mV, mIf, mOp, mChain, mCall, mFn, mFCall, mFr, mTup, mLst, aCons, aNil, mVal, mOwn, mC, mNeg, mNext, mRet, mDrop, bind_ok, bind_err, res_ok, res_err, Res.fin, Out.ne, gNm, gTp, gsCons, gsNil, mIt, mRng1, mSl, oNone, oSome, kInt, add_int, len_tup, len_lst, tuple_lst, tuple_tup, mMk, mIn, mFlds, putD, mChk, mDo, mRaise, mApp, mAppPop, mSetIx, mLRg, mRg1, mTRg, mRg2, mPar2, sVal, sOwn, sNil, D.isFn, sizeLine_eq, eq_int, ne_int, wipeE, d1, d2, int1_int, prD]
  obtain ⟨ts, a, b, e, hp, hn⟩ := g2
  subst e
  rw [rgI_len, Nat.zero_add] at hn
  have hnk : (n : Int) ≤ k := by
    simp only [n]
    split <;> omega
  refine ⟨ts, q2, ?_, hp, by omega⟩
  have hf : (mFor (mRng1 (mIf (mT (mOp kGt (mVal 1) (mC (.int 1)))) (mVal 2) (mC (.int 0)))) (gNm 4) bodyT) [.val .pen, .val (.int m), .val (.int k), .own [], .un, .un] q = _ := (for_of (rng1_int (n := if 1 < m then k else 0) (by
    by_cases c : 1 < m <;> simp -implicitDefEqProofs [mDef, env0, env1, mDefI, mSeq, mSet, mSetO, mIfS, mTAnd, mTOr, mTNot, mT, mV, mIf, mOp, mChain, mCall, mFn, mFCall, mFr, mTup, mLst, aCons, aNil, mVal, mOwn, mC, mNeg, mNext, mRet, mDrop, bind_ok, bind_err, res_ok, res_err, Res.fin, Out.ne, gNm, gTp, gsCons, gsNil, mIt, mRng1, mSl, oNone, oSome, kInt, add_int, len_tup, len_lst, tuple_lst, tuple_tup, mMk, mIn, mFlds, putD, mChk, mDo, mRaise, mApp, mAppPop, mSetIx, mLRg, mRg1, mTRg, mRg2, mPar2, sVal, sOwn, sNil, D.isFn, sizeLine_eq, eq_int, ne_int, wipeE, c]) (by split <;> omega) (by split <;> omega))).trans g1
  unfold bodyT at hf
  have e1 : b__law_drawn_ties [.val .pen, .val (.int m), .val (.int k), .un, .un, .un] q = .ret (prsD ts) q2 := by
    unfold b__law_drawn_ties
    rw [seq_next (e2 := [.val .pen, .val (.int m), .val (.int k), .own [], .un, .un]) (q2 := q) (by simp -implicitDefEqProofs [mDef, env0, env1, mDefI, mSeq, mSet, mSetO, mIfS, mTAnd, mTOr, mTNot, mT, mV, mIf, mOp, mChain, mCall, mFn, mFCall, mFr, mTup, mLst, aCons, aNil, mVal, mOwn, mC, mNeg, mNext, mRet, mDrop, bind_ok, bind_err, res_ok, res_err, Res.fin, Out.ne, gNm, gTp, gsCons, gsNil, mIt, mRng1, mSl, oNone, oSome, kInt, add_int, len_tup, len_lst, tuple_lst, tuple_tup, mMk, mIn, mFlds, putD, mChk, mDo, mRaise, mApp, mAppPop, mSetIx, mLRg, mRg1, mTRg, mRg2, mPar2, sVal, sOwn, sNil, D.isFn, sizeLine_eq, eq_int, ne_int, wipeE]), seq_next hf]
    simp -implicitDefEqProofs [mDef, env0, env1, mDefI, mSeq, mSet, mSetO, mIfS, mTAnd, mTOr, mTNot, mT, mV, mIf, mOp, mChain, mCall, mFn, mFCall, mFr, mTup, mLst, aCons, aNil, mVal, mOwn, mC, mNeg, mNext, mRet, mDrop, bind_ok, bind_err, res_ok, res_err, Res.fin, Out.ne, gNm, gTp, gsCons, gsNil, mIt, mRng1, mSl, oNone, oSome, kInt, add_int, len_tup, len_lst, tuple_lst, tuple_tup, mMk, mIn, mFlds, putD, mChk, mDo, mRaise, mApp, mAppPop, mSetIx, mLRg, mRg1, mTRg, mRg2, mPar2, sVal, sOwn, sNil, D.isFn, sizeLine_eq, eq_int, ne_int, wipeE]
    rfl
  show (b__law_drawn_ties [.val .pen, .val (.int m), .val (.int k), .un, .un, .un] q).fin = _
  rw [e1]
  rfl
end Lw
end Pu
end

section
set_option maxHeartbeats 4000000
namespace Pu
open PySem PySem.Spec PyProof.Rows L2
/-- a comprehension whose items move the pen, each item bound to its source -/
theorem compL_rel {β : Type} {g : GM} {te : EM} {env : Env} (c : β → D) (R : D → β → Prop) : ∀ (ds : List D) (q : Pen), (∀ d ∈ ds, ∀ q, ∃ e1, g d env = some e1 ∧ ∃ (y : β) (q' : Pen), te e1 q = .ok (c y) q' ∧ R d y) → ∃ (ys : List β) (q' : Pen), compL g tmYes te env ds q = .ok (ys.map c) q' ∧ ys.length = ds.length ∧ (∀ y ∈ ys, ∃ d ∈ ds, R d y) ∧ (∀ d ∈ ds, ∃ y ∈ ys, R d y)
  | [], q, _ => ⟨[], q, rfl, rfl, (fun x hx => by cases hx), (fun x hx => by cases hx)⟩
  | d :: ds, q, h => by
    obtain ⟨e1, h1, x, q1, h2, px⟩ := h d List.mem_cons_self q
    obtain ⟨xs, q2, h3, hl, hp, hp2⟩ := compL_rel c R ds q1 fun y hy => h y (List.mem_cons_of_mem _ hy)
    refine ⟨x :: xs, q2, ?_, by rw [List.length_cons, List.length_cons, hl], fun y hy => ?_, fun y hy => ?_⟩
    · unfold compL
      rw [h1]
      show ((te e1 q).ne.bind fun x p2 => _) = _
      rw [h2]
      show ((compL g tmYes te env ds q1).bind fun xs p3 => _) = _
      rw [h3]
      rfl
    · rcases List.mem_cons.mp hy with rfl | hy
      · exact ⟨d, List.mem_cons_self, px⟩
      · obtain ⟨z, h1, h2⟩ := hp y hy
        exact ⟨z, List.mem_cons_of_mem _ h1, h2⟩
    · rcases List.mem_cons.mp hy with rfl | hy
      · exact ⟨x, List.mem_cons_self, px⟩
      · obtain ⟨z, h1, h2⟩ := hp2 y hy
        exact ⟨z, List.mem_cons_of_mem _ h1, h2⟩
theorem comp_rel {β : Type} {it : AM} {vs : List Nat} {g : GM} {te : EM} {env : Env} {q q1 : Pen} {ds : List D} (c : β → D) (R : D → β → Prop) (hi : it env q = .ok ds q1) (hl : ds.length ≤ sizeLine)
    (h : ∀ d ∈ ds, ∀ q, ∃ e1, g d (wipeE env vs) = some e1 ∧ ∃ (y : β) (q' : Pen), te e1 q = .ok (c y) q' ∧ R d y) : ∃ (ys : List β) (q' : Pen), mComp it vs g tmYes te env q = .ok (ys.map c) q' ∧ ys.length = ds.length ∧ (∀ y ∈ ys, ∃ d ∈ ds, R d y) ∧ (∀ d ∈ ds, ∃ y ∈ ys, R d y) := by
  obtain ⟨xs, q', h1, h2⟩ := compL_rel c R ds q1 h
  refine ⟨xs, q', ?_, h2⟩
  unfold mComp
  rw [hi, bind_ok, if_pos hl]
  exact h1
theorem fn1 {f : FM} {a : EM} {env : Env} {q q1 : Pen} {d : D} (h : a env q = .ok d q1) : mFn f (aCons a aNil) env q = f [d] q1 := by
  unfold mFn aCons
  rw [h]
  rfl
theorem fn2 {f : FM} {a b : EM} {env : Env} {q q1 q2 : Pen} {d e : D} (h : a env q = .ok d q1) (h2 : b env q1 = .ok e q2) : mFn f (aCons a (aCons b aNil)) env q = f [d, e] q2 := by
  have x : aCons b aNil env q1 = .ok [e] q2 := by
    unfold aCons
    rw [h2]
    rfl
  unfold mFn
  rw [show aCons a (aCons b aNil) env q = .ok [d, e] q2 by
    rw [aCons, h, bind_ok, x]
    rfl]
  rfl
theorem fn3 {f : FM} {a b c : EM} {env : Env} {q q1 q2 q3 : Pen} {d e k : D} (h : a env q = .ok d q1) (h2 : b env q1 = .ok e q2) (h3 : c env q2 = .ok k q3) : mFn f (aCons a (aCons b (aCons c aNil))) env q = f [d, e, k] q3 := by
  have y : aCons c aNil env q2 = .ok [k] q3 := by
    rw [aCons, h3]
    rfl
  have x : aCons b (aCons c aNil) env q1 = .ok [e, k] q3 := by
    rw [aCons, h2, bind_ok, y]
    rfl
  unfold mFn
  rw [show aCons a (aCons b (aCons c aNil)) env q = .ok [d, e, k] q3 by
    rw [aCons, h, bind_ok, x]
    rfl]
  rfl
theorem ext_of {i : Nat} {m : EM} {env : Env} {ds es : List D} {d : D} {q q1 : Pen} (h1 : env[i]? = some (.own ds)) (h : m env q = .ok d q1) (hi : d.items = some es) (hl : ds.length + es.length ≤ sizeLine) : mExtS i m env q = .next (env.set i (.own (ds ++ es))) q1 := by
  unfold mExtS
  rw [h1]
  show (m env q).res env _ = _
  rw [h, res_ok, hi]
  exact if_pos hl
section
variable {env : Env} {q q1 q2 : Pen} {d e z : D} {ds : List D} {a : EM} {b : EM} {r : AM}
theorem ac0 : aNil env q = .ok [] q := rfl
theorem acc (h : a env q = .ok d q1) (h2 : r env q1 = .ok ds q2) : aCons a r env q = .ok (d :: ds) q2 := by
  rw [aCons, h, bind_ok, h2]
  rfl
theorem call_of {k : List D → Option D} (h : r env q = .ok ds q1) (hk : k ds = some z) : mCall k r env q = .ok z q1 := by
  unfold mCall
  rw [h, bind_ok, hk]
theorem tup_of (h : r env q = .ok ds q1) (hl : ds.length ≤ 1000) : mTup r env q = .ok (.tup ds) q1 := by
  unfold mTup
  rw [h, bind_ok, if_pos (by rw [sizeLine_eq]; omega)]
theorem fn_of' {f : FM} (h : r env q = .ok ds q1) : mFn f r env q = f ds q1 := by
  unfold mFn
  rw [h, bind_ok]
theorem ret_of (h : a env q = .ok d q1) : mRet a env q = .ret d q1 := by
  unfold mRet
  rw [h, res_ok]
theorem set_of {g : GM} {e1 : Env} (h : a env q = .ok d q1) (hg : g d env = some e1) : mSet a g env q = .next e1 q1 := by
  unfold mSet
  rw [h, res_ok, hg]
theorem if_t {t : TM} {x y : SM} (h : t env q = .ok true q1) : mIfS t x y env q = x env q1 := by
  unfold mIfS
  rw [h, res_ok]
  rfl
theorem if_f {t : TM} {x y : SM} (h : t env q = .ok false q1) : mIfS t x y env q = y env q1 := by
  unfold mIfS
  rw [h, res_ok]
  rfl
theorem op_of {k : D → D → Option D} (h : a env q = .ok d q1) (h2 : b env q1 = .ok e q2) (hk : k d e = some z) : mOp k a b env q = .ok z q2 := by
  unfold mOp
  rw [h, bind_ok, h2, bind_ok, hk]
theorem t_of {x : Bool} (h : a env q = .ok (.bl x) q1) : mT a env q = .ok x q1 := by
  unfold mT
  rw [h, bind_ok]
theorem or_ff {s t : TM} (h : s env q = .ok false q1) (h2 : t env q1 = .ok false q2) : mTOr s t env q = .ok false q2 := by
  unfold mTOr
  rw [h, bind_ok]
  exact h2
theorem ife_t {t : TM} {x y : EM} (h : t env q = .ok true q1) : mIf t x y env q = x env q1 := by
  unfold mIf
  rw [h]
  rfl
theorem ife_f {t : TM} {x y : EM} (h : t env q = .ok false q1) : mIf t x y env q = y env q1 := by
  unfold mIf
  rw [h]
  rfl
theorem not_of {t : TM} {x : Bool} (h : t env q = .ok x q1) : mTNot t env q = .ok (!x) q1 := by
  unfold mTNot
  rw [h, bind_ok]
end
def atN (ns : List Int) (x : Int) : Int := ns.getD x.toNat 0
section
variable {env : Env} {q q1 q2 : Pen} {d : D} {ds : List D} {a b : EM} {r : AM}
theorem ixN_in {n : Nat} {k : Int} (h0 : 0 ≤ k) (h1 : k < n) : ixN n k = some k.toNat := by
  unfold ixN
  rw [if_pos h0, if_pos h1]
theorem atI_ints {cs : List Int} {k : Int} (h0 : 0 ≤ k) (h1 : k < cs.length) : L2.atI (cs.map D.int) k = some (.int (atN cs k)) := by
  rw [atI_of _ h0 (by rw [List.length_map]; exact h1), List.getElem_map]
  unfold atN
  rw [List.getD_eq_getElem?_getD, List.getElem?_eq_getElem (by omega)]
  rfl
theorem aug_of {f : Int → Int → Int} {i : Nat} {cs : List Int} {k v : Int} (h : env[i]? = some (.own (cs.map D.int))) (ha : a env q = .ok (.int k) q1) (h0 : 0 ≤ k) (h1 : k < cs.length) (hb : b env q1 = .ok (.int v) q2) : mAugIx f i a b env q = .next (env.set i (.own ((cs.set k.toNat (f (atN cs k) v)).map D.int))) q2 := by
  unfold mAugIx
  rw [h]
  show (a env q).res env _ = _
  rw [ha, res_ok]
  show (match ixN (cs.map D.int).length k, L2.atI (cs.map D.int) k with | some j, some (.int old) => (b env q1).res env _ | _, _ => .bad) = _
  rw [ixN_in h0 (by rw [List.length_map]; exact h1), atI_ints h0 h1]
  show (b env q1).res env _ = _
  rw [hb, res_ok, List.map_set]
theorem setix_of {i : Nat} {cs : List Int} {k v : Int} (hb : b env q = .ok (.int v) q1) (h : env[i]? = some (.own (cs.map D.int))) (ha : a env q1 = .ok (.int k) q2) (h0 : 0 ≤ k) (h1 : k < cs.length) : mSetIx i a b env q = .next (env.set i (.own ((cs.set k.toNat v).map D.int))) q2 := by
  unfold mSetIx
  rw [hb, res_ok, h]
  show (a env q1).res env _ = _
  rw [ha, res_ok]
  show (match ixN (cs.map D.int).length k with | some j => Res.next (env.set i (.own ((cs.map D.int).set j (.int v)))) q2 | none => Res.bad) = _
  rw [ixN_in h0 (by rw [List.length_map]; exact h1), List.map_set]
theorem mit_lst (h : a env q = .ok (.lst ds) q1) : mIt a env q = .ok ds q1 := by
  unfold mIt
  rw [h, bind_ok]
theorem mit_tup (h : a env q = .ok (.tup ds) q1) : mIt a env q = .ok ds q1 := by
  unfold mIt
  rw [h, bind_ok]
theorem raise_of {x : Str} {ns : List Str} (h : r env q = .ok ds q1) (hl : ds.length = ns.length) : mRaise x ns r env q = .err ⟨x, (ns.zip ds).reverse⟩ env q1 := by
  unfold mRaise
  rw [h, res_ok, if_pos hl]
theorem seto_of {i : Nat} (h : r env q = .ok ds q1) : mSetO r i env q = .next (env.set i (.own ds)) q1 := by
  unfold mSetO
  rw [h, res_ok]
theorem fr_of (h : r env q = .ok ds q1) : mFr r env q = .ok (.lst ds) q1 := by
  unfold mFr
  rw [h, bind_ok]
theorem fcall_of {k : List D → Option (List D)} {es : List D} (h : r env q = .ok ds q1) (hk : k ds = some es) : mFCall k r env q = .ok es q1 := by
  unfold mFCall
  rw [h, bind_ok, hk]
theorem fop_of {k : D → D → Option (List D)} {es : List D} {e : D} (h : a env q = .ok d q1) (h2 : b env q1 = .ok e q2) (hk : k d e = some es) : mFOp k a b env q = .ok es q2 := by
  unfold mFOp
  rw [h, bind_ok, h2, bind_ok, hk]
theorem drop_of (h : a env q = .ok d q1) : mDrop a env q = .next env q1 := by
  unfold mDrop
  rw [h, res_ok]
theorem drop_err {e : Err} (h : a env q = .err e q1) : mDrop a env q = .err e env q1 := by
  unfold mDrop
  rw [h]
  rfl
theorem set_err {g : GM} {e : Err} (h : a env q = .err e q1) : mSet a g env q = .err e env q1 := by
  unfold mSet
  rw [h]
  rfl
theorem ret_err {e : Err} (h : a env q = .err e q1) : mRet a env q = .err e env q1 := by
  unfold mRet
  rw [h]
  rfl
end
theorem if_skip {t : TM} {x : SM} {env : Env} {q q1 : Pen} (h : t env q = .ok false q1) : mIfS t x mNext env q = .next env q1 := by
  rw [if_f h]
  rfl
theorem fn3_err {f : FM} {a b c : EM} {env : Env} {q q1 q2 q3 : Pen} {d e : D} {x : Err} (h : a env q = .ok d q1) (h2 : b env q1 = .ok e q2) (h3 : c env q2 = .err x q3) : mFn f (aCons a (aCons b (aCons c aNil))) env q = .err x q3 := by
  have y : aCons c aNil env q2 = .err x q3 := by
    rw [aCons, h3]
    rfl
  have z : aCons b (aCons c aNil) env q1 = .err x q3 := by
    rw [aCons, h2, bind_ok, y]
    rfl
  unfold mFn
  rw [show aCons a (aCons b (aCons c aNil)) env q = .err x q3 by
    rw [aCons, h, bind_ok, z]
    rfl]
  rfl
theorem and_f {s t : TM} {env : Env} {q q1 : Pen} (h : s env q = .ok false q1) : mTAnd s t env q = .ok false q1 := by
  unfold mTAnd
  rw [h, bind_ok]
  rfl
theorem and_t {s t : TM} {env : Env} {q q1 : Pen} (h : s env q = .ok true q1) : mTAnd s t env q = t env q1 := by
  unfold mTAnd
  rw [h, bind_ok]
  rfl
theorem v_of {t : TM} {env : Env} {q q1 : Pen} {x : Bool} (h : t env q = .ok x q1) : mV t env q = .ok (.bl x) q1 := by
  unfold mV
  rw [h, bind_ok]
theorem lr_n {n : Int} (h0 : 0 ≤ n) (h1 : n ≤ 1000) : rgD 0 n = (rgI n.toNat).map D.int ∧ gRg 0 n = true := by
  refine ⟨?_, by simp [gRg]; omega⟩
  rw [← rgN0]
  unfold rgD rgN
  rw [Int.sub_zero]
end Pu
end

section
set_option maxHeartbeats 4000000
namespace Pu
namespace Lw
open PySem PySem.Spec PyProof.Rows L2
/-- each node but the first hangs on a lesser one -/
structure Jn (m : Int) (ts : List (Int × Int)) : Prop where
  w : OkW m ts
  c : ∀ v, 0 < v → v < m → ∃ d, 0 ≤ d ∧ d < v ∧ (d, v) ∈ ts
theorem m_joined (n k : Int) (hn : 0 < n) (hn2 : n ≤ 10) (h0 : 0 ≤ k) (h1 : k ≤ 12) (q : Pen) : ∃ (m : Int) (ts : List (Int × Int)) (q' : Pen), m__law_joined_web [.pen, .int n, .int k] q = .ok (.tup [.int m, prsD ts]) q' ∧ Jn m ts ∧ m ≤ n ∧ ((ts.length : Int) ≤ k ∨ (ts.length : Int) ≤ n - 1) := by
  obtain ⟨r, q1, d1, r0, r1⟩ := m_draw q n hn (by omega)
  have e1 : (mSet (mOp kAdd (mC (.int 1)) (mFn m__law_draw (aCons (mVal 0) (aCons (mVal 1) aNil)))) (gNm 3)) [.val .pen, .val (.int n), .val (.int k), .un, .un, .un] q = .next [.val .pen, .val (.int n), .val (.int k), .val (.int (1 + r)), .un, .un] q1 := by
    simp -implicitDefEqProofs [mDef, env0, env1, mDefI, mSeq, mSet, mSetO, mIfS, mTAnd, mTOr, mTNot, mT, mV, mIf, mOp, mChain, mCall, mFn, mFCall, mFr, mTup, mLst, aCons, aNil, mVal, mOwn, mC, mNeg, mNext, mRet, mDrop, bind_ok, bind_err, res_ok, res_err, Res.fin, Out.ne, gNm, gTp, gsCons, gsNil, mIt, mRng1, mSl, oNone, oSome, kInt, add_int, len_tup, len_lst, tuple_lst, tuple_tup, mMk, mIn, mFlds, putD, mChk, mDo, mRaise, mApp, mAppPop, mSetIx, mLRg, mRg1, mTRg, mRg2, mPar2, sVal, sOwn, sNil, D.isFn, sizeLine_eq, eq_int, ne_int, wipeE, d1]
  have hc := comp_rel (it := mRng2 (mC (.int 1)) (mVal 3)) (vs := [5]) (g := gNm 5) (te := mTup (aCons (mFn m__law_draw (aCons (mVal 0) (aCons (mVal 5) aNil))) (aCons (mVal 5) aNil))) (env := [.val .pen, .val (.int n), .val (.int k), .val (.int (1 + r)), .un, .un]) (q := q1) (q1 := q1) prD (fun d y => ∃ v : Int, d = .int v ∧ y.2 = v ∧ 0 ≤ y.1 ∧ y.1 < v) (rng2_int (a := 1) (b := 1 + r) rfl rfl (by omega) (by omega) (by omega) (by omega)) (by rw [List.length_map, rgF_len, sizeLine_eq]; omega) fun d hd q => by
    obtain ⟨v, hv, rfl⟩ := List.mem_map.mp hd
    rw [rgF_mem] at hv
    obtain ⟨z, q', d2, z0, z1⟩ := m_draw q v (by omega) (by omega)
    refine ⟨_, rfl, (z, v), q', ?_, v, rfl, rfl, z0, z1⟩
    simp -implicitDefEqProofs [mDef, env0, env1, mDefI, mSeq, mSet, mSetO, mIfS, mTAnd, mTOr, mTNot, mT, mV, mIf, mOp, mChain, mCall, mFn, mFCall, mFr, mTup, mLst, aCons, aNil, mVal, mOwn, mC, mNeg, mNext, mRet, mDrop, bind_ok, bind_err, res_ok, res_err, Res.fin, Out.ne, gNm, gTp, gsCons, gsNil, mIt, mRng1, mSl, oNone, oSome, kInt, add_int, len_tup, len_lst, tuple_lst, tuple_tup, mMk, mIn, mFlds, putD, mChk, mDo, mRaise, mApp, mAppPop, mSetIx, mLRg, mRg1, mTRg, mRg2, mPar2, sVal, sOwn, sNil, D.isFn, sizeLine_eq, eq_int, ne_int, wipeE, d2, prD]
  obtain ⟨fs, q2, hc, hl, hp, hp2⟩ := hc
  rw [List.length_map, rgF_len] at hl
  have e2 : (mSetO (mComp (mRng2 (mC (.int 1)) (mVal 3)) [5] (gNm 5) tmYes (mTup (aCons (mFn m__law_draw (aCons (mVal 0) (aCons (mVal 5) aNil))) (aCons (mVal 5) aNil)))) 4) [.val .pen, .val (.int n), .val (.int k), .val (.int (1 + r)), .un, .un] q1 = .next [.val .pen, .val (.int n), .val (.int k), .val (.int (1 + r)), .own (fs.map prD), .un] q2 := by
    unfold mSetO
    rw [hc]
    rfl
  have hcount : ∃ (s : Int) (q3 : Pen), (mIf (mT (mOp kGt (mVal 2) (mCall kLen (aCons (mOwn 4) aNil)))) (mFn m__law_draw (aCons (mVal 0) (aCons (mOp kAdd (mOp kSub (mVal 2) (mCall kLen (aCons (mOwn 4) aNil))) (mC (.int 1))) aNil))) (mC (.int 0))) [.val .pen, .val (.int n), .val (.int k), .val (.int (1 + r)), .own (fs.map prD), .un] q2 = .ok (.int s) q3 ∧ 0 ≤ s ∧ ((fs.length : Int) + s ≤ k ∨ s = 0) := by
    by_cases hk : (fs.length : Int) < k
    · obtain ⟨s, q3, d3, s0, s1⟩ := m_draw q2 (k - fs.length + 1) (by omega) (by omega)
      exact ⟨s, q3, by simp -implicitDefEqProofs [mDef, env0, env1, mDefI, mSeq, mSet, mSetO, mIfS, mTAnd, mTOr, mTNot, mT, mV, mIf, mOp, mChain, mCall, mFn, mFCall, mFr, mTup, mLst, aCons, aNil, mVal, mOwn, mC, mNeg, mNext, mRet, mDrop, bind_ok, bind_err, res_ok, res_err, Res.fin, Out.ne, gNm, gTp, gsCons, gsNil, mIt, mRng1, mSl, oNone, oSome, kInt, add_int, len_tup, len_lst, tuple_lst, tuple_tup, mMk, mIn, mFlds, putD, mChk, mDo, mRaise, mApp, mAppPop, mSetIx, mLRg, mRg1, mTRg, mRg2, mPar2, sVal, sOwn, sNil, D.isFn, sizeLine_eq, eq_int, ne_int, wipeE, hk, d3], s0, .inl (by omega)⟩
    · exact ⟨0, q2, by simp -implicitDefEqProofs [mDef, env0, env1, mDefI, mSeq, mSet, mSetO, mIfS, mTAnd, mTOr, mTNot, mT, mV, mIf, mOp, mChain, mCall, mFn, mFCall, mFr, mTup, mLst, aCons, aNil, mVal, mOwn, mC, mNeg, mNext, mRet, mDrop, bind_ok, bind_err, res_ok, res_err, Res.fin, Out.ne, gNm, gTp, gsCons, gsNil, mIt, mRng1, mSl, oNone, oSome, kInt, add_int, len_tup, len_lst, tuple_lst, tuple_tup, mMk, mIn, mFlds, putD, mChk, mDo, mRaise, mApp, mAppPop, mSetIx, mLRg, mRg1, mTRg, mRg2, mPar2, sVal, sOwn, sNil, D.isFn, sizeLine_eq, eq_int, ne_int, wipeE, hk], by omega, .inr rfl⟩
  obtain ⟨s, q3, hcount, s0, s1⟩ := hcount
  obtain ⟨us, q4, d4, hu, hul⟩ := m_drawn_ties (1 + r) s (by omega) s0 (by omega) q3
  have e3 : (mExtS 4 (mFn m__law_drawn_ties (aCons (mVal 0) (aCons (mVal 3) (aCons (mIf (mT (mOp kGt (mVal 2) (mCall kLen (aCons (mOwn 4) aNil)))) (mFn m__law_draw (aCons (mVal 0) (aCons (mOp kAdd (mOp kSub (mVal 2) (mCall kLen (aCons (mOwn 4) aNil))) (mC (.int 1))) aNil))) (mC (.int 0))) aNil))))) [.val .pen, .val (.int n), .val (.int k), .val (.int (1 + r)), .own (fs.map prD), .un] q2 = .next [.val .pen, .val (.int n), .val (.int k), .val (.int (1 + r)), .own ((fs ++ us).map prD), .un] q4 := by
    have e := ext_of (i := 4) (m := mFn m__law_drawn_ties (aCons (mVal 0) (aCons (mVal 3) (aCons (mIf (mT (mOp kGt (mVal 2) (mCall kLen (aCons (mOwn 4) aNil)))) (mFn m__law_draw (aCons (mVal 0) (aCons (mOp kAdd (mOp kSub (mVal 2) (mCall kLen (aCons (mOwn 4) aNil))) (mC (.int 1))) aNil))) (mC (.int 0))) aNil)))) (env := [.val .pen, .val (.int n), .val (.int k), .val (.int (1 + r)), .own (fs.map prD), .un]) (ds := fs.map prD) (es := us.map prD) (d := prsD us) (q := q2) rfl ((fn3 rfl rfl hcount).trans d4) rfl (by rw [List.length_map, List.length_map, sizeLine_eq]; omega)
    rw [e, List.map_append]
    rfl
  obtain ⟨ts, q5, d5, hperm⟩ := m_shuffled prD (fs ++ us) (by rw [List.length_append]; omega) q4
  have hlen := hperm.length_eq
  rw [List.length_append] at hlen
  refine ⟨1 + r, ts, q5, ?_, ⟨⟨by omega, by omega, fun p hp' => ?_, by omega⟩, fun v v0 v1 => ?_⟩, by omega, ?_⟩
  · have e4 : b__law_joined_web [.val .pen, .val (.int n), .val (.int k), .un, .un, .un] q = .ret (.tup [.int (1 + r), prsD ts]) q5 := by
      unfold b__law_joined_web
      rw [seq_next e1, seq_next e2, seq_next e3]
      rw [List.map_append] at d5 ⊢
      simp -implicitDefEqProofs [mDef, env0, env1, mDefI, mSeq, mSet, mSetO, mIfS, mTAnd, mTOr, mTNot, mT, mV, mIf, mOp, mChain, mCall, mFn, mFCall, mFr, mTup, mLst, aCons, aNil, mVal, mOwn, mC, mNeg, mNext, mRet, mDrop, bind_ok, bind_err, res_ok, res_err, Res.fin, Out.ne, gNm, gTp, gsCons, gsNil, mIt, mRng1, mSl, oNone, oSome, kInt, add_int, len_tup, len_lst, tuple_lst, tuple_tup, mMk, mIn, mFlds, putD, mChk, mDo, mRaise, mApp, mAppPop, mSetIx, mLRg, mRg1, mTRg, mRg2, mPar2, sVal, sOwn, sNil, D.isFn, sizeLine_eq, eq_int, ne_int, wipeE, mFrzS, d5, prsD]
    show (b__law_joined_web [.val .pen, .val (.int n), .val (.int k), .un, .un, .un] q).fin = _
    rw [e4]
    rfl
  · rcases List.mem_append.mp (hperm.mem_iff.mp hp') with h | h
    · obtain ⟨d, hd, v, rfl, h1, h2, h3⟩ := hp p h
      obtain ⟨v', hv, e⟩ := List.mem_map.mp hd
      cases e
      rw [rgF_mem] at hv
      exact ⟨h2, by omega, by omega⟩
    · exact hu p h
  · obtain ⟨y, hy, v', e, h1, h2, h3⟩ := hp2 (.int v) (List.mem_map.mpr ⟨v, rgF_mem.mpr (by omega), rfl⟩)
    cases e
    refine ⟨y.1, h2, h3, hperm.mem_iff.mpr (List.mem_append_left _ ?_)⟩
    rw [← h1]
    exact hy
  · rcases s1 with s1 | s1
    · exact .inl (by omega)
    · exact .inr (by omega)
theorem rg2 (q : Pen) : m__law_tuples [.lst ((rgI 2).map D.int), .int 2] q = .ok (.lst [.tup [.int 0, .int 0], .tup [.int 0, .int 1], .tup [.int 1, .int 0], .tup [.int 1, .int 1]]) q := by
  rfl
end Lw
end Pu
end

section
set_option maxHeartbeats 4000000
namespace Pu
namespace Lw
open PySem PySem.Spec PyProof.Rows L2
def full (n : Nat) : List (Int × Int) := (List.range n).flatMap fun (a : Nat) => ((List.range n).filter fun (b : Nat) => decide (a < b)).map fun (b : Nat) => ((a : Int), (b : Int))
abbrev pairsE : EM := (mFr (mComp (mIt (mFn m__law_tuples (aCons (mFr (mLRg (mRg1 (mVal 4)))) (aCons (mC (.int 2)) aNil)))) [5] (gNm 5) (mT (mOp kLt (mOp kIx (mVal 5) (mC (.int 0))) (mOp kIx (mVal 5) (mC (.int 1))))) (mVal 5)))
theorem full_ev {r : Nat} (h : r < 3) (q : Pen) : pairsE [.val .pen, .val (.int 6), .val (.int 9), .val (.int 0), .val (.int (2 + r)), .un] q = .ok (.lst ((full (2 + r)).map prD)) q := by
  match r, h with
  | 0, _ => rfl
  | 1, _ => rfl
  | 2, _ => rfl
theorem full_mem {n : Nat} {p : Int × Int} : p ∈ full n ↔ 0 ≤ p.1 ∧ p.1 < p.2 ∧ p.2 < n := by
  obtain ⟨a, b⟩ := p
  unfold full
  simp only [List.mem_flatMap, List.mem_range, List.mem_map, List.mem_filter, decide_eq_true_eq, Prod.mk.injEq]
  constructor
  · rintro ⟨x, hx, y, ⟨hy, hxy⟩, rfl, rfl⟩
    omega
  · rintro ⟨h1, h2, h3⟩
    exact ⟨a.toNat, by omega, b.toNat, ⟨by omega, by omega⟩, by omega, by omega⟩
theorem full_len {r : Nat} (h : r < 3) : (full (2 + r)).length ≤ 6 := by
  match r, h with
  | 0, _ => decide
  | 1, _ => decide
  | 2, _ => decide
theorem m_chip_web (q : Pen) : ∃ (m : Int) (ts : List (Int × Int)) (q' : Pen), m__law_chip_web [.pen, .int 6, .int 9] q = .ok (.tup [.int m, prsD ts]) q' ∧ Jn m ts ∧ m ≤ 6 ∧ (ts.length : Int) ≤ 9 := by
  obtain ⟨w, q1, d1, w0, w1⟩ := m_draw q 5 (by omega) (by omega)
  have e1 : (mSet (mFn m__law_draw (aCons (mVal 0) (aCons (mC (.int 5)) aNil))) (gNm 3)) [.val .pen, .val (.int 6), .val (.int 9), .un, .un, .un] q = .next [.val .pen, .val (.int 6), .val (.int 9), .val (.int w), .un, .un] q1 := by
    simp -implicitDefEqProofs [mDef, env0, env1, mDefI, mSeq, mSet, mSetO, mIfS, mTAnd, mTOr, mTNot, mT, mV, mIf, mOp, mChain, mCall, mFn, mFCall, mFr, mTup, mLst, aCons, aNil, mVal, mOwn, mC, mNeg, mNext, mRet, mDrop, bind_ok, bind_err, res_ok, res_err, Res.fin, Out.ne, gNm, gTp, gsCons, gsNil, mIt, mRng1, mSl, oNone, oSome, kInt, add_int, len_tup, len_lst, tuple_lst, tuple_tup, mMk, mIn, mFlds, putD, mChk, mDo, mRaise, mApp, mAppPop, mSetIx, mLRg, mRg1, mTRg, mRg2, mPar2, sVal, sOwn, sNil, D.isFn, sizeLine_eq, eq_int, ne_int, wipeE, d1]
  by_cases hw : w = 0
  · subst hw
    obtain ⟨r, q2, d2, r0, r1⟩ := m_draw q1 3 (by omega) (by omega)
    obtain ⟨r, rfl⟩ := Int.eq_ofNat_of_zero_le r0
    have hr : r < 3 := by omega
    obtain ⟨ts, q3, d3, hperm⟩ := m_shuffled prD (full (2 + r)) (by have := full_len hr; omega) q2
    have hlen := hperm.length_eq
    have hfl := full_len hr
    refine ⟨2 + r, ts, q3, ?_, ⟨⟨by omega, by omega, fun p hp => ?_, by omega⟩, fun v v0 v1 => ⟨0, by omega, v0, ?_⟩⟩, by omega, by omega⟩
    · have k : kMin2 [.int 3, .int 5] = some (.int 3) := rfl
      have e2 : (mSet (mOp kAdd (mC (.int 2)) (mFn m__law_draw (aCons (mVal 0) (aCons (mCall kMin2 (aCons (mC (.int 3)) (aCons (mOp kSub (mVal 1) (mC (.int 1))) aNil))) aNil)))) (gNm 4)) [.val .pen, .val (.int 6), .val (.int 9), .val (.int 0), .un, .un] q1 = .next [.val .pen, .val (.int 6), .val (.int 9), .val (.int 0), .val (.int (2 + r)), .un] q2 := by
        simp -implicitDefEqProofs [mDef, env0, env1, mDefI, mSeq, mSet, mSetO, mIfS, mTAnd, mTOr, mTNot, mT, mV, mIf, mOp, mChain, mCall, mFn, mFCall, mFr, mTup, mLst, aCons, aNil, mVal, mOwn, mC, mNeg, mNext, mRet, mDrop, bind_ok, bind_err, res_ok, res_err, Res.fin, Out.ne, gNm, gTp, gsCons, gsNil, mIt, mRng1, mSl, oNone, oSome, kInt, add_int, len_tup, len_lst, tuple_lst, tuple_tup, mMk, mIn, mFlds, putD, mChk, mDo, mRaise, mApp, mAppPop, mSetIx, mLRg, mRg1, mTRg, mRg2, mPar2, sVal, sOwn, sNil, D.isFn, sizeLine_eq, eq_int, ne_int, wipeE, d2, k]
      have e3 := full_ev hr q2
      have e4 : mFn m__law_shuffled (aCons (mVal 0) (aCons pairsE aNil)) [.val .pen, .val (.int 6), .val (.int 9), .val (.int 0), .val (.int (2 + r)), .un] q2 = .ok (.lst (ts.map prD)) q3 := (fn2 rfl e3).trans d3
      have e5 : (mIfS (mT (mOp kEq (mVal 3) (mC (.int 0)))) (mSeq (mSet (mOp kAdd (mC (.int 2)) (mFn m__law_draw (aCons (mVal 0) (aCons (mCall kMin2 (aCons (mC (.int 3)) (aCons (mOp kSub (mVal 1) (mC (.int 1))) aNil))) aNil)))) (gNm 4)) (mRet (mTup (aCons (mVal 4) (aCons (mCall kTuple (aCons (mFn m__law_shuffled (aCons (mVal 0) (aCons pairsE aNil))) aNil)) aNil))))) mNext) [.val .pen, .val (.int 6), .val (.int 9), .val (.int 0), .un, .un] q1 = .ret (.tup [.int (2 + r), prsD ts]) q3 := by
        have t : mT (mOp kEq (mVal 3) (mC (.int 0))) [.val .pen, .val (.int 6), .val (.int 9), .val (.int 0), .un, .un] q1 = .ok true q1 := by
          simp -implicitDefEqProofs [mDef, env0, env1, mDefI, mSeq, mSet, mSetO, mIfS, mTAnd, mTOr, mTNot, mT, mV, mIf, mOp, mChain, mCall, mFn, mFCall, mFr, mTup, mLst, aCons, aNil, mVal, mOwn, mC, mNeg, mNext, mRet, mDrop, bind_ok, bind_err, res_ok, res_err, Res.fin, Out.ne, gNm, gTp, gsCons, gsNil, mIt, mRng1, mSl, oNone, oSome, kInt, add_int, len_tup, len_lst, tuple_lst, tuple_tup, mMk, mIn, mFlds, putD, mChk, mDo, mRaise, mApp, mAppPop, mSetIx, mLRg, mRg1, mTRg, mRg2, mPar2, sVal, sOwn, sNil, D.isFn, sizeLine_eq, eq_int, ne_int, wipeE]
        unfold mIfS
        rw [t, res_ok]
        show mSeq _ _ _ _ = _
        rw [seq_next e2]
        exact ret_of (tup_of (acc rfl (acc (call_of (acc e4 ac0) (tuple_lst _)) ac0)) (by simp))
      show (b__law_chip_web [.val .pen, .val (.int 6), .val (.int 9), .un, .un, .un] q).fin = _
      unfold b__law_chip_web
      rw [seq_next e1, seq_ret e5]
      rfl
    · have := full_mem.mp (hperm.mem_iff.mp hp)
      exact ⟨this.1, this.2.1, by omega⟩
    · exact hperm.mem_iff.mpr (full_mem.mpr ⟨by omega, v0, by omega⟩)
  · obtain ⟨m, ts, q2, d2, j, h1, h2⟩ := m_joined 6 9 (by decide) (by decide) (by decide) (by decide) q1
    refine ⟨m, ts, q2, ?_, j, h1, by omega⟩
    have e5 : (mIfS (mT (mOp kEq (mVal 3) (mC (.int 0)))) (mSeq (mSet (mOp kAdd (mC (.int 2)) (mFn m__law_draw (aCons (mVal 0) (aCons (mCall kMin2 (aCons (mC (.int 3)) (aCons (mOp kSub (mVal 1) (mC (.int 1))) aNil))) aNil)))) (gNm 4)) (mRet (mTup (aCons (mVal 4) (aCons (mCall kTuple (aCons (mFn m__law_shuffled (aCons (mVal 0) (aCons pairsE aNil))) aNil)) aNil))))) mNext) [.val .pen, .val (.int 6), .val (.int 9), .val (.int w), .un, .un] q1 = .next [.val .pen, .val (.int 6), .val (.int 9), .val (.int w), .un, .un] q1 := by
      have t : mT (mOp kEq (mVal 3) (mC (.int 0))) [.val .pen, .val (.int 6), .val (.int 9), .val (.int w), .un, .un] q1 = .ok false q1 := by
        simp -implicitDefEqProofs [mDef, env0, env1, mDefI, mSeq, mSet, mSetO, mIfS, mTAnd, mTOr, mTNot, mT, mV, mIf, mOp, mChain, mCall, mFn, mFCall, mFr, mTup, mLst, aCons, aNil, mVal, mOwn, mC, mNeg, mNext, mRet, mDrop, bind_ok, bind_err, res_ok, res_err, Res.fin, Out.ne, gNm, gTp, gsCons, gsNil, mIt, mRng1, mSl, oNone, oSome, kInt, add_int, len_tup, len_lst, tuple_lst, tuple_tup, mMk, mIn, mFlds, putD, mChk, mDo, mRaise, mApp, mAppPop, mSetIx, mLRg, mRg1, mTRg, mRg2, mPar2, sVal, sOwn, sNil, D.isFn, sizeLine_eq, eq_int, ne_int, wipeE, hw]
      unfold mIfS
      rw [t, res_ok]
      rfl
    show (b__law_chip_web [.val .pen, .val (.int 6), .val (.int 9), .un, .un, .un] q).fin = _
    unfold b__law_chip_web
    rw [seq_next e1, seq_next e5]
    rw [ret_of ((fn3 rfl rfl rfl).trans d2)]
    rfl
end Lw
end Pu
end

section
set_option maxHeartbeats 4000000
namespace Pu
namespace Lw
open PySem PySem.Spec PyProof.Rows L2
theorem at_ns {ns : List Int} {x : Int} (h0 : 0 ≤ x) (h1 : x < ns.length) {d : D} (hd : d = .lst (ns.map D.int) ∨ d = .tup (ns.map D.int)) : kIx d (.int x) = some (.int (atN ns x)) := by
  have h2 : x.toNat < ns.length := by omega
  have e : L2.atI (ns.map D.int) x = some (.int (atN ns x)) := by
    rw [atI_of _ h0 (by rw [List.length_map]; exact h1), List.getElem_map]
    unfold atN
    rw [List.getD_eq_getElem?_getD, List.getElem?_eq_getElem h2]
    rfl
  rcases hd with rfl | rfl
  · rw [ix_lst, e]
  · rw [ix_tup, e]
theorem atN_mem {ns : List Int} {x : Int} (h0 : 0 ≤ x) (h1 : x < ns.length) : atN ns x ∈ ns := by
  have h2 : x.toNat < ns.length := by omega
  unfold atN
  rw [List.getD_eq_getElem?_getD, List.getElem?_eq_getElem h2]
  exact List.getElem_mem h2
theorem atN_map {ns : List Int} {f : Int → Int} {x : Int} (h0 : 0 ≤ x) (h1 : x < ns.length) : atN (ns.map f) x = f (atN ns x) := by
  have h2 : x.toNat < ns.length := by omega
  unfold atN
  rw [List.getD_eq_getElem?_getD, List.getD_eq_getElem?_getD, List.getElem?_map, List.getElem?_eq_getElem h2]
  rfl
theorem min2 (i j : Int) : kMin2 [.int i, .int j] = some (.int (if j < i then j else i)) := rfl
theorem max2 (i j : Int) : kMax2 [.int i, .int j] = some (.int (if j > i then j else i)) := rfl
def turn (x y z : Int) : Int := if z = (if y > x then y else x) then (if y < x then y else x) else z
abbrev bodyP : SM := (mSeq (mSet (mTup (aCons (mCall kMin2 (aCons (mOp kIx (mVal 2) (mVal 3)) (aCons (mOp kIx (mVal 2) (mVal 4)) aNil))) (aCons (mCall kMax2 (aCons (mOp kIx (mVal 2) (mVal 3)) (aCons (mOp kIx (mVal 2) (mVal 4)) aNil))) aNil))) (gTp (gsCons (gNm 5) (gsCons (gNm 6) gsNil))))
    (mIfS (mT (mOp kNe (mVal 5) (mVal 6))) (mSeq (mSetO (mComp (mIt (mVal 2)) [7] (gNm 7) tmYes (mIf (mT (mOp kEq (mVal 7) (mVal 6))) (mVal 5) (mVal 7))) 2)
    (mFrzS 2 mNext)) mNext))
theorem part_step {m : Int} {ts : List (Int × Int)} {ps : List Int} (hl : ps.length ≤ 1000) {a b : Int} (a0 : 0 ≤ a) (a1 : a < ps.length) (b0 : 0 ≤ b) (b1 : b < ps.length) (s5 s6 s7 : Slot) (q : Pen) : ∃ s5' s6', bodyP [.val (.int m), .val (prsD ts), .val (.lst (ps.map D.int)), .val (.int a), .val (.int b), s5, s6, s7] q = .next [.val (.int m), .val (prsD ts), .val (.lst ((ps.map (turn (atN ps a) (atN ps b))).map D.int)), .val (.int a), .val (.int b), s5', s6', s7] q := by
  have ea := at_ns (ns := ps) a0 a1 (d := .lst (ps.map D.int)) (.inl rfl)
  have eb := at_ns (ns := ps) b0 b1 (d := .lst (ps.map D.int)) (.inl rfl)
  generalize atN ps a = x at ea ⊢
  generalize atN ps b = y at eb ⊢
  refine ⟨.val (.int (if y < x then y else x)), .val (.int (if y > x then y else x)), ?_⟩
  have e1 : (mSet (mTup (aCons (mCall kMin2 (aCons (mOp kIx (mVal 2) (mVal 3)) (aCons (mOp kIx (mVal 2) (mVal 4)) aNil))) (aCons (mCall kMax2 (aCons (mOp kIx (mVal 2) (mVal 3)) (aCons (mOp kIx (mVal 2) (mVal 4)) aNil))) aNil))) (gTp (gsCons (gNm 5) (gsCons (gNm 6) gsNil)))) [.val (.int m), .val (prsD ts), .val (.lst (ps.map D.int)), .val (.int a), .val (.int b), s5, s6, s7] q = .next [.val (.int m), .val (prsD ts), .val (.lst (ps.map D.int)), .val (.int a), .val (.int b), .val (.int (if y < x then y else x)), .val (.int (if y > x then y else x)), s7] q :=
    set_of (tup_of (acc (call_of (acc (op_of rfl rfl ea) (acc (op_of rfl rfl eb) ac0)) (min2 _ _)) (acc (call_of (acc (op_of rfl rfl ea) (acc (op_of rfl rfl eb) ac0)) (max2 _ _)) ac0)) (by simp)) rfl
  rw [bodyP, seq_next e1]
  by_cases h : (if y < x then y else x) = (if y > x then y else x)
  · rw [if_f (q1 := q) (t_of (op_of rfl rfl (by rw [ne_int]; simp [h])))]
    have e : ps.map (turn x y) = ps := by
      rw [List.map_congr_left (g := id) fun z _ => ?_, List.map_id]
      unfold turn
      by_cases k : z = (if y > x then y else x)
      · rw [if_pos k, h, ← k]
        rfl
      · rw [if_neg k]
        rfl
    rw [e]
    rfl
  · rw [if_t (q1 := q) (t_of (op_of rfl rfl (by rw [ne_int]; simp [h])))]
    have hc : mComp (mIt (mVal 2)) [7] (gNm 7) tmYes (mIf (mT (mOp kEq (mVal 7) (mVal 6))) (mVal 5) (mVal 7)) [.val (.int m), .val (prsD ts), .val (.lst (ps.map D.int)), .val (.int a), .val (.int b), .val (.int (if y < x then y else x)), .val (.int (if y > x then y else x)), s7] q = .ok (ps.map fun z => .int (turn x y z)) q := comp_ofM D.int (fun z => .int (turn x y z)) rfl (by rw [sizeLine_eq]; omega) fun z hz => ⟨_, rfl, by
      by_cases k : z = (if y > x then y else x)
      · have t : mT (mOp kEq (mVal 7) (mVal 6)) [.val (.int m), .val (prsD ts), .val (.lst (ps.map D.int)), .val (.int a), .val (.int b), .val (.int (if y < x then y else x)), .val (.int (if y > x then y else x)), .val (.int z)] q = .ok true q := t_of (op_of rfl rfl (by rw [eq_int]; simp [k]))
        unfold turn
        rw [if_pos k]
        exact (ife_t t).trans rfl
      · have t : mT (mOp kEq (mVal 7) (mVal 6)) [.val (.int m), .val (prsD ts), .val (.lst (ps.map D.int)), .val (.int a), .val (.int b), .val (.int (if y < x then y else x)), .val (.int (if y > x then y else x)), .val (.int z)] q = .ok false q := t_of (op_of rfl rfl (by rw [eq_int]; simp [k]))
        unfold turn
        rw [if_neg k]
        exact (ife_f t).trans rfl⟩
    have e2 : (mSetO (mComp (mIt (mVal 2)) [7] (gNm 7) tmYes (mIf (mT (mOp kEq (mVal 7) (mVal 6))) (mVal 5) (mVal 7))) 2) [.val (.int m), .val (prsD ts), .val (.lst (ps.map D.int)), .val (.int a), .val (.int b), .val (.int (if y < x then y else x)), .val (.int (if y > x then y else x)), s7] q = .next [.val (.int m), .val (prsD ts), .own (ps.map fun z => .int (turn x y z)), .val (.int a), .val (.int b), .val (.int (if y < x then y else x)), .val (.int (if y > x then y else x)), s7] q := by
      unfold mSetO
      rw [hc]
      rfl
    rw [seq_next e2, List.map_map]
    rfl
theorem turn_nn {x y z : Int} (hx : 0 ≤ x) (hy : 0 ≤ y) (hz : 0 ≤ z) : 0 ≤ turn x y z := by
  unfold turn
  by_cases h1 : y > x <;> by_cases h2 : y < x <;> simp only [h1, h2, if_true, if_false] <;> by_cases h3 : z = y <;> by_cases h4 : z = x <;> simp only [h3, h4, if_true, if_false] <;> (try split) <;> omega
theorem turn_eq (x y : Int) : turn x y x = turn x y y := by
  unfold turn
  by_cases h1 : y > x
  · rw [if_pos h1, if_neg (show ¬ x = y by omega), if_pos rfl, if_neg (show ¬ y < x by omega)]
  · rw [if_neg h1, if_pos rfl]
    by_cases h2 : y = x
    · rw [if_pos h2]
    · rw [if_neg h2, if_pos (show y < x by omega)]
theorem turn_0 {x y : Int} (hx : 0 ≤ x) (hy : 0 ≤ y) : turn x y 0 = 0 := by
  unfold turn
  by_cases h1 : y > x
  · rw [if_pos h1, if_neg (show ¬ (0 : Int) = y by omega)]
  · rw [if_neg h1]
    by_cases h2 : (0 : Int) = x
    · rw [if_pos h2]
      by_cases h3 : y < x
      · omega
      · rw [if_neg h3]
        exact h2.symm
    · rw [if_neg h2]
theorem m_parts {m : Int} {ts : List (Int × Int)} (m1 : 1 ≤ m) (m2 : m ≤ 16) (ht : ∀ p ∈ ts, okT m p) (q : Pen) : ∃ ps : List Int, m_parts_by [.int m, prsD ts] q = .ok (.lst (ps.map D.int)) q ∧ ps.length = m.toNat ∧ (∀ x ∈ ps, 0 ≤ x) ∧ atN ps 0 = 0 ∧ ∀ p ∈ ts, atN ps p.1 = atN ps p.2 := by
  obtain ⟨lr, lg⟩ := lr_n (n := m) (by omega) (by omega)
  have e1 : (mSet (mFr (mLRg (mRg1 (mVal 0)))) (gNm 2)) [.val (.int m), .val (prsD ts), .un, .un, .un, .un, .un, .un] q = .next [.val (.int m), .val (prsD ts), .val (.lst ((rgI m.toNat).map D.int)), .un, .un, .un, .un, .un] q := by
    have k : mRg1 (mVal 0) [.val (.int m), .val (prsD ts), .un, .un, .un, .un, .un, .un] q = .ok (0, m) q := rfl
    refine set_of (d := .lst ((rgI m.toNat).map D.int)) (q1 := q) ?_ rfl
    unfold mFr mLRg
    rw [k, bind_ok, if_pos lg, lr]
    rfl
  let I : Nat → Env → Pen → Prop := fun n env q' => q' = q ∧ ∃ (ps : List Int) (s3 s4 s5 s6 s7 : Slot), env = [.val (.int m), .val (prsD ts), .val (.lst (ps.map D.int)), s3, s4, s5, s6, s7] ∧ ps.length = m.toNat ∧ (∀ x ∈ ps, 0 ≤ x) ∧ atN ps 0 = 0 ∧ ∀ p ∈ ts.take n, atN ps p.1 = atN ps p.2
  have hI : I 0 [.val (.int m), .val (prsD ts), .val (.lst ((rgI m.toNat).map D.int)), .un, .un, .un, .un, .un] q := by
    refine ⟨rfl, rgI m.toNat, .un, .un, .un, .un, .un, rfl, rgI_len _, fun x hx => (rgI_mem.mp hx).1, ?_, fun p hp => by rw [List.take_zero] at hp; cases hp⟩
    unfold atN
    have h : (0 : Int).toNat < (rgI m.toNat).length := by rw [rgI_len]; omega
    rw [List.getD_eq_getElem?_getD, List.getElem?_eq_getElem h, rgI_get]
    rfl
  obtain ⟨e2, q2, h1, h2⟩ := loop_inv (g := gTp (gsCons (gNm 3) (gsCons (gNm 4) gsNil))) (b := bodyP) prD I ts 0 _ q hI fun i hi env q' ⟨hq, ps, s3, s4, s5, s6, s7, e, hl, hn, h0, hp⟩ => by
    subst e hq
    have ok := ht _ (List.getElem_mem hi)
    obtain ⟨a0, ab, bm⟩ := ok
    have al : ts[i].1 < ps.length := by omega
    have bl : ts[i].2 < ps.length := by omega
    have b0 : 0 ≤ ts[i].2 := by omega
    obtain ⟨s5', s6', st⟩ := part_step (m := m) (ts := ts) (ps := ps) (by omega) a0 al b0 bl s5 s6 s7 q'
    refine ⟨_, rfl, _, q', .inl st, rfl, _, _, _, _, _, _, rfl, by rw [List.length_map]; exact hl, fun x hx => ?_, ?_, fun p hp' => ?_⟩
    · obtain ⟨z, hz, rfl⟩ := List.mem_map.mp hx
      exact turn_nn (hn _ (atN_mem a0 al)) (hn _ (atN_mem b0 bl)) (hn z hz)
    · rw [atN_map (by omega) (by omega), h0]
      exact turn_0 (hn _ (atN_mem a0 al)) (hn _ (atN_mem b0 bl))
    · rw [Nat.zero_add] at hp hp'
      rw [List.take_succ, List.getElem?_eq_getElem hi] at hp'
      rcases List.mem_append.mp hp' with k | k
      · have o2 := ht p (List.mem_of_mem_take k)
        obtain ⟨c0, cd, dm⟩ := o2
        rw [atN_map (by omega) (by omega), atN_map (by omega) (by omega), hp p k]
      · have k : p = ts[i] := by simpa using k
        rw [k, atN_map a0 al, atN_map b0 bl]
        exact turn_eq _ _
  obtain ⟨hq, ps, s3, s4, s5, s6, s7, e, hl, hn, h0, hp⟩ := h2
  subst e hq
  rw [Nat.zero_add, List.take_length] at hp
  refine ⟨ps, ?_, hl, hn, h0, hp⟩
  show (b_parts_by [.val (.int m), .val (prsD ts), .un, .un, .un, .un, .un, .un] q2).fin = _
  unfold b_parts_by
  rw [seq_next e1, seq_next ((for_of rfl).trans h1)]
  rfl
theorem parts_0 {m : Int} {ts : List (Int × Int)} {ps : List Int} (c : ∀ v, 0 < v → v < m → ∃ d, 0 ≤ d ∧ d < v ∧ (d, v) ∈ ts) (h0 : atN ps 0 = 0) (hp : ∀ p ∈ ts, atN ps p.1 = atN ps p.2) : ∀ (n : Nat) (v : Int), v.toNat ≤ n → 0 ≤ v → v < m → atN ps v = 0
  | n, v, hn, v0, v1 => by
    by_cases z : v = 0
    · rw [z]
      exact h0
    · obtain ⟨d, d0, d1, hd⟩ := c v (by omega) v1
      match n with
      | 0 => omega
      | n + 1 =>
        rw [← hp _ hd]
        exact parts_0 c h0 hp n d (by omega) d0 (by omega)
theorem max_0 {ps : List Int} (h : ∀ x ∈ ps, x = 0) (hl : ps ≠ []) : kMaxA [.lst (ps.map D.int)] = some (.int 0) := by
  have e : maxL ps = some 0 := by
    cases ps with
    | nil => exact absurd rfl hl
    | cons x xs =>
      have := foldl_max xs x
      show some (xs.foldl (fun a b => if b > a then b else a) x) = _
      rcases this.1 with k | k
      · rw [k, h x List.mem_cons_self]
      · rw [h _ (List.mem_cons_of_mem _ k)]
  show (match intsD (ps.map D.int) with | some ns => (maxL ns).map D.int | none => none) = _
  rw [intsD_map]
  show (maxL ps).map D.int = _
  rw [e]
  rfl
theorem parts_max {m : Int} {ts : List (Int × Int)} (m1 : 1 ≤ m) (m2 : m ≤ 16) (j : Jn m ts) (q : Pen) : ∃ d, m_parts_by [.int m, prsD ts] q = .ok d q ∧ kMaxA [d] = some (.int 0) := by
  obtain ⟨ps, e, hl, hn, h0, hp⟩ := m_parts m1 m2 j.w.t q
  refine ⟨_, e, max_0 (fun x hx => ?_) fun z => ?_⟩
  · obtain ⟨i, hi, rfl⟩ := List.mem_iff_getElem.mp hx
    have := parts_0 j.c h0 hp i (i : Int) (by omega) (by omega) (by omega)
    unfold atN at this
    rw [List.getD_eq_getElem?_getD, Int.toNat_natCast, List.getElem?_eq_getElem hi] at this
    exact this
  · rw [z] at hl
    simp at hl
    omega
end Lw
end Pu
end

section
set_option maxHeartbeats 4000000
namespace Pu
namespace Lw
open PySem PySem.Spec PyProof.Rows L2
/-! #### rows, fired and counted: no program in sight -/
theorem atN_set {c : List Int} {x y v : Int} (x0 : 0 ≤ x) (y0 : 0 ≤ y) (y1 : y < c.length) : atN (c.set x.toNat v) y = if y = x then v else atN c y := by
  unfold atN
  rw [List.getD_eq_getElem?_getD, List.getD_eq_getElem?_getD, List.getElem?_set]
  by_cases h : y = x
  · subst h
    rw [if_pos rfl, if_pos (by omega), if_pos rfl]
    rfl
  · rw [if_neg (by omega), if_neg h]
theorem atN_ext {xs ys : List Int} {m : Int} (hx : xs.length = m.toNat) (hy : ys.length = m.toNat) (h : ∀ v, 0 ≤ v → v < m → atN xs v = atN ys v) : xs = ys := by
  refine List.ext_getElem (hx.trans hy.symm) fun i h1 h2 => ?_
  have := h i (by omega) (by omega)
  unfold atN at this
  rw [List.getD_eq_getElem?_getD, List.getD_eq_getElem?_getD, Int.toNat_natCast, List.getElem?_eq_getElem h1, List.getElem?_eq_getElem h2] at this
  exact this
def con (r : List Int) (p : Int × Int) (v : Int) : Int := if v = p.2 then atN r p.2 - atN r p.1 else if v = p.1 then atN r p.1 - atN r p.2 else 0
def stp (r c : List Int) (p : Int × Int) : List Int := (c.set p.1.toNat (atN c p.1 - (atN r p.1 - atN r p.2))).set p.2.toNat (atN c p.2 - (atN r p.2 - atN r p.1))
def fire (ts : List (Int × Int)) (c r : List Int) : List Int := ts.foldl (stp r) c
theorem stp_len (r c : List Int) (p : Int × Int) : (stp r c p).length = c.length := by simp [stp]
theorem fire_len (ts : List (Int × Int)) : ∀ c r, (fire ts c r).length = c.length := by
  induction ts with
  | nil => exact fun _ _ => rfl
  | cons p ts ih =>
    intro c r
    show (fire ts (stp r c p) r).length = _
    rw [ih, stp_len]
theorem atN_stp {m : Int} {r c : List Int} {p : Int × Int} (o : okT m p) (hc : c.length = m.toNat) {v : Int} (v0 : 0 ≤ v) (v1 : v < m) : atN (stp r c p) v = atN c v - con r p v := by
  obtain ⟨a, b⟩ := p
  obtain ⟨o1, o2, o3⟩ := o
  simp only at o1 o2 o3
  unfold stp con
  simp only
  rw [atN_set (by omega) v0 (by rw [List.length_set]; omega), atN_set o1 v0 (by omega)]
  by_cases h1 : v = b
  · subst h1
    rw [if_pos rfl, if_pos rfl]
  · rw [if_neg h1, if_neg h1]
    by_cases h2 : v = a
    · subst h2
      rw [if_pos rfl, if_pos rfl]
    · rw [if_neg h2, if_neg h2]
      omega
theorem atN_fire {m : Int} : ∀ (ts : List (Int × Int)) {r c : List Int}, (∀ p ∈ ts, okT m p) → c.length = m.toNat → ∀ {v : Int}, 0 ≤ v → v < m → atN (fire ts c r) v = atN c v - (ts.map fun p => con r p v).sum
  | [], r, c, _, _, v, _, _ => by
    simp [fire]
  | p :: ts, r, c, h, hc, v, v0, v1 => by
    show atN (fire ts (stp r c p) r) v = _
    rw [atN_fire ts (fun q hq => h q (List.mem_cons_of_mem _ hq)) (by rw [stp_len]; exact hc) v0 v1, atN_stp (h p List.mem_cons_self) hc v0 v1, List.map_cons, List.sum_cons]
    omega
def addR (r s : List Int) : List Int := List.zipWith (fun a b => a + b) r s
theorem addR_len {r s : List Int} {n : Nat} (hr : r.length = n) (hs : s.length = n) : (addR r s).length = n := by
  unfold addR
  rw [List.length_zipWith, hr, hs, Nat.min_self]
theorem atN_add {r s : List Int} {m : Int} (hr : r.length = m.toNat) (hs : s.length = m.toNat) {v : Int} (v0 : 0 ≤ v) (v1 : v < m) : atN (addR r s) v = atN r v + atN s v := by
  unfold atN addR
  rw [List.getD_eq_getElem?_getD, List.getD_eq_getElem?_getD, List.getD_eq_getElem?_getD, List.getElem?_zipWith, List.getElem?_eq_getElem (show v.toNat < r.length by omega), List.getElem?_eq_getElem (show v.toNat < s.length by omega)]
  rfl
theorem con_add {m : Int} {r s : List Int} (hr : r.length = m.toNat) (hs : s.length = m.toNat) {p : Int × Int} (o : okT m p) (v : Int) : con (addR r s) p v = con r p v + con s p v := by
  obtain ⟨o1, o2, o3⟩ := o
  unfold con
  rw [atN_add hr hs o1 (by omega), atN_add hr hs (by omega) o3]
  by_cases h1 : v = p.2
  · rw [if_pos h1, if_pos h1, if_pos h1]
    omega
  · rw [if_neg h1, if_neg h1, if_neg h1]
    by_cases h2 : v = p.1
    · rw [if_pos h2, if_pos h2, if_pos h2]
      omega
    · rw [if_neg h2, if_neg h2, if_neg h2]
      omega
theorem cons_add {m : Int} {r s : List Int} (hr : r.length = m.toNat) (hs : s.length = m.toNat) (v : Int) : ∀ ts : List (Int × Int), (∀ p ∈ ts, okT m p) → (ts.map fun p => con (addR r s) p v).sum = (ts.map fun p => con r p v).sum + (ts.map fun p => con s p v).sum
  | [], _ => by simp
  | p :: ts, h => by
    rw [List.map_cons, List.map_cons, List.map_cons, List.sum_cons, List.sum_cons, List.sum_cons, cons_add hr hs v ts fun q hq => h q (List.mem_cons_of_mem _ hq), con_add hr hs (h p List.mem_cons_self)]
    omega
theorem fire_fire {m : Int} {ts : List (Int × Int)} {c r s : List Int} (h : ∀ p ∈ ts, okT m p) (hc : c.length = m.toNat) (hr : r.length = m.toNat) (hs : s.length = m.toNat) : fire ts (fire ts c r) s = fire ts c (addR r s) := by
  refine atN_ext (m := m) (by rw [fire_len, fire_len, hc]) (by rw [fire_len, hc]) fun v v0 v1 => ?_
  rw [atN_fire ts h (by rw [fire_len, hc]) v0 v1, atN_fire ts h hc v0 v1, atN_fire ts h hc v0 v1, cons_add hr hs v ts h]
  omega
theorem fire_const {m : Int} {ts : List (Int × Int)} {c : List Int} (x : Int) (h : ∀ p ∈ ts, okT m p) (hc : c.length = m.toNat) : fire ts c (List.replicate m.toNat x) = c := by
  refine atN_ext (m := m) (by rw [fire_len, hc]) hc fun v v0 v1 => ?_
  rw [atN_fire ts h hc v0 v1]
  have z : ∀ ts : List (Int × Int), (∀ p ∈ ts, okT m p) → (ts.map fun p => con (List.replicate m.toNat x) p v).sum = 0 := fun ts => by
    induction ts with
    | nil => exact fun _ => rfl
    | cons p ts ih =>
      intro h
      have o := h p List.mem_cons_self
      have e : con (List.replicate m.toNat x) p v = 0 := by
        obtain ⟨o1, o2, o3⟩ := o
        have z : ∀ y : Int, 0 ≤ y → y < m → atN (List.replicate m.toNat x) y = x := fun y y0 y1 => by
          unfold atN
          rw [List.getD_eq_getElem?_getD, List.getElem?_replicate, if_pos (by omega)]
          rfl
        unfold con
        rw [z _ o1 (by omega), z _ (by omega) o3, Int.sub_self, ite_self, ite_self]
      rw [List.map_cons, List.sum_cons, e, ih fun q hq => h q (List.mem_cons_of_mem _ hq)]
      rfl
  rw [z ts h, Int.sub_zero]
theorem sum_set : ∀ (l : List Int) (i : Nat) (v : Int) (h : i < l.length), (l.set i v).sum = l.sum - l[i] + v
  | x :: l, 0, v, _ => by
    rw [List.set_cons_zero, List.sum_cons, List.sum_cons, List.getElem_cons_zero]
    omega
  | x :: l, i + 1, v, h => by
    have h2 : i < l.length := by simpa using h
    rw [List.set_cons_succ, List.sum_cons, List.sum_cons, sum_set l i v h2, List.getElem_cons_succ]
    omega
theorem atN_get {c : List Int} {x : Int} (x0 : 0 ≤ x) (x1 : x < c.length) : c[x.toNat]'(by omega) = atN c x := by
  unfold atN
  rw [List.getD_eq_getElem?_getD, List.getElem?_eq_getElem (by omega)]
  rfl
theorem sum_set2 {c : List Int} {a b x y : Int} (a0 : 0 ≤ a) (b0 : 0 ≤ b) (a1 : a < c.length) (b1 : b < c.length) (n : a ≠ b) : ((c.set a.toNat x).set b.toNat y).sum = c.sum - atN c a + x - atN c b + y := by
  have l1 : b.toNat < (c.set a.toNat x).length := by rw [List.length_set]; omega
  rw [sum_set _ _ _ l1, sum_set _ _ _ (show a.toNat < c.length by omega), atN_get a0 a1, List.getElem_set, if_neg (by omega), atN_get b0 b1]
theorem stp_sum {m : Int} {r c : List Int} {p : Int × Int} (o : okT m p) (hc : c.length = m.toNat) : (stp r c p).sum = c.sum := by
  obtain ⟨o1, o2, o3⟩ := o
  unfold stp
  rw [sum_set2 o1 (by omega) (by omega) (by omega) (by omega)]
  omega
theorem fire_sum {m : Int} : ∀ (ts : List (Int × Int)) {c r : List Int}, (∀ p ∈ ts, okT m p) → c.length = m.toNat → (fire ts c r).sum = c.sum
  | [], c, r, _, _ => rfl
  | p :: ts, c, r, h, hc => by
    show (fire ts (stp r c p) r).sum = _
    rw [fire_sum ts (fun q hq => h q (List.mem_cons_of_mem _ hq)) (by rw [stp_len]; exact hc), stp_sum (h p List.mem_cons_self) hc]
/-! #### degrees -/
def dst (c : List Int) (p : Int × Int) : List Int := (c.set p.1.toNat (atN c p.1 + 1)).set p.2.toNat (atN c p.2 + 1)
def degs (ts : List (Int × Int)) (c : List Int) : List Int := ts.foldl dst c
def inT (v : Int) (p : Int × Int) : Bool := v == p.1 || v == p.2
theorem dst_len (c : List Int) (p : Int × Int) : (dst c p).length = c.length := by simp [dst]
theorem degs_len (ts : List (Int × Int)) : ∀ c, (degs ts c).length = c.length := by
  induction ts with
  | nil => exact fun _ => rfl
  | cons p ts ih =>
    intro c
    show (degs ts (dst c p)).length = _
    rw [ih, dst_len]
theorem atN_dst {m : Int} {c : List Int} {p : Int × Int} (o : okT m p) (hc : c.length = m.toNat) {v : Int} (v0 : 0 ≤ v) (v1 : v < m) : atN (dst c p) v = atN c v + if inT v p = true then 1 else 0 := by
  obtain ⟨a, b⟩ := p
  obtain ⟨o1, o2, o3⟩ := o
  simp only at o1 o2 o3
  unfold dst inT
  simp only
  rw [atN_set (by omega) v0 (by rw [List.length_set]; omega), atN_set o1 v0 (by omega)]
  by_cases h1 : v = b
  · subst h1
    simp
  · by_cases h2 : v = a
    · subst h2
      simp [h1]
    · simp [h1, h2]
theorem atN_degs {m : Int} : ∀ (ts : List (Int × Int)) {c : List Int}, (∀ p ∈ ts, okT m p) → c.length = m.toNat → ∀ {v : Int}, 0 ≤ v → v < m → atN (degs ts c) v = atN c v + ((ts.filter (inT v)).length : Int)
  | [], c, _, _, v, _, _ => by simp [degs]
  | p :: ts, c, h, hc, v, v0, v1 => by
    show atN (degs ts (dst c p)) v = _
    rw [atN_degs ts (fun q hq => h q (List.mem_cons_of_mem _ hq)) (by rw [dst_len]; exact hc) v0 v1, atN_dst (h p List.mem_cons_self) hc v0 v1, List.filter_cons]
    split
    · rw [List.length_cons]
      omega
    · omega
theorem degs_sum {m : Int} : ∀ (ts : List (Int × Int)) {c : List Int}, (∀ p ∈ ts, okT m p) → c.length = m.toNat → (degs ts c).sum = c.sum + 2 * (ts.length : Int)
  | [], c, _, _ => by simp [degs]
  | p :: ts, c, h, hc => by
    show (degs ts (dst c p)).sum = _
    obtain ⟨o1, o2, o3⟩ := h p List.mem_cons_self
    rw [degs_sum ts (fun q hq => h q (List.mem_cons_of_mem _ hq)) (by rw [dst_len]; exact hc)]
    unfold dst
    rw [sum_set2 o1 (by omega) (by omega) (by omega) (by omega), List.length_cons]
    omega
theorem counts_eq {m : Int} {ts : List (Int × Int)} (h : ∀ p ∈ ts, okT m p) : ((rgI m.toNat).map fun v => ((ts.filter (inT v)).length : Int)) = degs ts (List.replicate m.toNat 0) := by
  refine atN_ext (m := m) (by rw [List.length_map, rgI_len]) (by rw [degs_len, List.length_replicate]) fun v v0 v1 => ?_
  have z : atN (List.replicate m.toNat 0) v = 0 := by
    unfold atN
    rw [List.getD_eq_getElem?_getD, List.getElem?_replicate, if_pos (by omega)]
    rfl
  rw [atN_degs ts h (by rw [List.length_replicate]) v0 v1, z, Int.zero_add]
  unfold atN
  rw [List.getD_eq_getElem?_getD, List.getElem?_map, List.getElem?_eq_getElem (show v.toNat < (rgI m.toNat).length by rw [rgI_len]; omega), rgI_get, Int.toNat_of_nonneg v0]
  rfl
theorem sum_sub2 : ∀ l : List Int, (l.map fun x => x - 2).sum = l.sum - 2 * (l.length : Int)
  | [] => by simp
  | x :: l => by
    rw [List.map_cons, List.sum_cons, List.sum_cons, sum_sub2 l, List.length_cons]
    omega
theorem sum_rep0 : ∀ n : Nat, (List.replicate n (0 : Int)).sum = 0
  | 0 => rfl
  | n + 1 => by rw [List.replicate_succ, List.sum_cons, sum_rep0 n]; rfl
end Lw
end Pu
end

section
set_option maxHeartbeats 4000000
namespace Pu
namespace Lw
open PySem PySem.Spec PyProof.Rows L2
def rowD (ns : List Int) : D := .tup (ns.map D.int)
theorem m_fire {m : Int} {ts : List (Int × Int)} {c r : List Int} (hc : c.length = m.toNat) (hr : r.length = m.toNat) (hm : m ≤ 16) (ht : ∀ p ∈ ts, okT m p) (q : Pen) : m__law_fire [.int m, prsD ts, rowD c, rowD r] q = .ok (rowD (fire ts c r)) q := by
  let I : Nat → Env → Pen → Prop := fun n env q' => q' = q ∧ ∃ (s5 s6 : Slot), env = [.val (.int m), .val (prsD ts), .val (rowD c), .val (rowD r), .own ((fire (ts.take n) c r).map D.int), s5, s6]
  have e1 : (mSetO (mFCall kList (aCons (mVal 2) aNil)) 4) [.val (.int m), .val (prsD ts), .val (rowD c), .val (rowD r), .un, .un, .un] q = .next [.val (.int m), .val (prsD ts), .val (rowD c), .val (rowD r), .own (c.map D.int), .un, .un] q := seto_of (fcall_of (acc rfl ac0) rfl)
  obtain ⟨e2, q2, h1, h2⟩ := loop_inv (g := gTp (gsCons (gNm 5) (gsCons (gNm 6) gsNil))) (b := mSeq (mSetIx 4 (mVal 5) (mOp kAdd (mOp kSub (mOp kIx (mOwn 4) (mVal 5)) (mOp kIx (mVal 3) (mVal 5))) (mOp kIx (mVal 3) (mVal 6))))
    (mSetIx 4 (mVal 6) (mOp kAdd (mOp kSub (mOp kIx (mOwn 4) (mVal 6)) (mOp kIx (mVal 3) (mVal 6))) (mOp kIx (mVal 3) (mVal 5))))) prD I ts 0 [.val (.int m), .val (prsD ts), .val (rowD c), .val (rowD r), .own (c.map D.int), .un, .un] q ⟨rfl, .un, .un, rfl⟩ fun i hi env q' ⟨hq, s5, s6, e⟩ => by
    subst e hq
    rw [Nat.zero_add]
    obtain ⟨o1, o2, o3⟩ := ht _ (List.getElem_mem hi)
    have hf : (fire (ts.take i) c r).length = m.toNat := by rw [fire_len, hc]
    have et : fire (ts.take (i + 1)) c r = stp r (fire (ts.take i) c r) ts[i] := by
      rw [List.take_succ, List.getElem?_eq_getElem hi]
      show List.foldl _ _ _ = _
      rw [List.foldl_append]
      rfl
    generalize fire (ts.take i) c r = cs at hf et
    generalize ts[i] = p at o1 o2 o3 et
    obtain ⟨a, b⟩ := p
    simp only at o1 o2 o3
    have xa := at_ns (ns := cs) (x := a) o1 (by omega) (.inl rfl)
    have ra := at_ns (ns := r) (x := a) o1 (by omega) (d := rowD r) (.inr rfl)
    have rb := at_ns (ns := r) (x := b) (by omega) (by omega) (d := rowD r) (.inr rfl)
    have xb := at_ns (ns := cs.set a.toNat (atN cs a - atN r a + atN r b)) (x := b) (by omega) (by rw [List.length_set]; omega) (.inl rfl)
    have f1 : mSetIx 4 (mVal 5) (mOp kAdd (mOp kSub (mOp kIx (mOwn 4) (mVal 5)) (mOp kIx (mVal 3) (mVal 5))) (mOp kIx (mVal 3) (mVal 6))) [.val (.int m), .val (prsD ts), .val (rowD c), .val (rowD r), .own (cs.map D.int), .val (.int a), .val (.int b)] q' = .next [.val (.int m), .val (prsD ts), .val (rowD c), .val (rowD r), .own ((cs.set a.toNat (atN cs a - atN r a + atN r b)).map D.int), .val (.int a), .val (.int b)] q' :=
      setix_of (q1 := q') (q2 := q') (op_of (op_of (op_of rfl rfl xa) (op_of rfl rfl ra) rfl) (op_of rfl rfl rb) rfl) rfl rfl o1 (by omega)
    have f2 : mSetIx 4 (mVal 6) (mOp kAdd (mOp kSub (mOp kIx (mOwn 4) (mVal 6)) (mOp kIx (mVal 3) (mVal 6))) (mOp kIx (mVal 3) (mVal 5))) [.val (.int m), .val (prsD ts), .val (rowD c), .val (rowD r), .own ((cs.set a.toNat (atN cs a - atN r a + atN r b)).map D.int), .val (.int a), .val (.int b)] q' = .next [.val (.int m), .val (prsD ts), .val (rowD c), .val (rowD r), .own (((cs.set a.toNat (atN cs a - atN r a + atN r b)).set b.toNat (atN (cs.set a.toNat (atN cs a - atN r a + atN r b)) b - atN r b + atN r a)).map D.int), .val (.int a), .val (.int b)] q' :=
      setix_of (q1 := q') (q2 := q') (op_of (op_of (op_of rfl rfl xb) (op_of rfl rfl rb) rfl) (op_of rfl rfl ra) rfl) rfl rfl (by omega) (by rw [List.length_set]; omega)
    refine ⟨_, rfl, _, q', .inl ((seq_next f1).trans f2), rfl, .val (.int a), .val (.int b), ?_⟩
    rw [et]
    unfold stp
    simp only
    rw [atN_set o1 (by omega) (by omega), if_neg (by omega), show atN cs a - (atN r a - atN r b) = atN cs a - atN r a + atN r b by omega, show atN cs b - (atN r b - atN r a) = atN cs b - atN r b + atN r a by omega]
  obtain ⟨hq, s5, s6, e⟩ := h2
  subst e hq
  rw [Nat.zero_add, List.take_length] at h1
  show (b__law_fire [.val (.int m), .val (prsD ts), .val (rowD c), .val (rowD r), .un, .un, .un] q2).fin = _
  unfold b__law_fire
  rw [seq_next e1, seq_next ((for_of (mit_tup rfl)).trans h1), ret_of (call_of (acc rfl ac0) (tuple_lst _))]
  rfl
theorem m_firedby {m : Int} {ts : List (Int × Int)} {c r : List Int} (hc : c.length = m.toNat) (hr : r.length = m.toNat) (hm : m ≤ 16) (ht : ∀ p ∈ ts, okT m p) (q : Pen) : m_fired_by [webD m ts, rowD c, rowD r] q = .ok (rowD (fire ts c r)) q := by
  let I : Nat → Env → Pen → Prop := fun n env q' => q' = q ∧ ∃ (s4 s5 : Slot), env = [.val (webD m ts), .val (rowD c), .val (rowD r), .own ((fire (ts.take n) c r).map D.int), s4, s5]
  have e1 : (mSetO (mFCall kList (aCons (mVal 1) aNil)) 3) [.val (webD m ts), .val (rowD c), .val (rowD r), .un, .un, .un] q = .next [.val (webD m ts), .val (rowD c), .val (rowD r), .own (c.map D.int), .un, .un] q := seto_of (fcall_of (acc rfl ac0) rfl)
  obtain ⟨e2, q2, h1, h2⟩ := loop_inv (g := gTp (gsCons (gNm 4) (gsCons (gNm 5) gsNil))) (b := mSeq (mAugIx (fun i j => i - j) 3 (mVal 4) (mOp kSub (mOp kIx (mVal 2) (mVal 4)) (mOp kIx (mVal 2) (mVal 5))))
    (mAugIx (fun i j => i - j) 3 (mVal 5) (mOp kSub (mOp kIx (mVal 2) (mVal 5)) (mOp kIx (mVal 2) (mVal 4))))) prD I ts 0 [.val (webD m ts), .val (rowD c), .val (rowD r), .own (c.map D.int), .un, .un] q ⟨rfl, .un, .un, rfl⟩ fun i hi env q' ⟨hq, s5, s6, e⟩ => by
    subst e hq
    rw [Nat.zero_add]
    obtain ⟨o1, o2, o3⟩ := ht _ (List.getElem_mem hi)
    have hf : (fire (ts.take i) c r).length = m.toNat := by rw [fire_len, hc]
    have et : fire (ts.take (i + 1)) c r = stp r (fire (ts.take i) c r) ts[i] := by
      rw [List.take_succ, List.getElem?_eq_getElem hi]
      show List.foldl _ _ _ = _
      rw [List.foldl_append]
      rfl
    generalize fire (ts.take i) c r = cs at hf et
    generalize ts[i] = p at o1 o2 o3 et
    obtain ⟨a, b⟩ := p
    simp only at o1 o2 o3
    have ra := at_ns (ns := r) (x := a) o1 (by omega) (d := rowD r) (.inr rfl)
    have rb := at_ns (ns := r) (x := b) (by omega) (by omega) (d := rowD r) (.inr rfl)
    have f1 : mAugIx (fun i j => i - j) 3 (mVal 4) (mOp kSub (mOp kIx (mVal 2) (mVal 4)) (mOp kIx (mVal 2) (mVal 5))) [.val (webD m ts), .val (rowD c), .val (rowD r), .own (cs.map D.int), .val (.int a), .val (.int b)] q' = .next [.val (webD m ts), .val (rowD c), .val (rowD r), .own ((cs.set a.toNat (atN cs a - (atN r a - atN r b))).map D.int), .val (.int a), .val (.int b)] q' :=
      aug_of (q1 := q') (q2 := q') rfl rfl o1 (by omega) (op_of (op_of rfl rfl ra) (op_of rfl rfl rb) rfl)
    have f2 : mAugIx (fun i j => i - j) 3 (mVal 5) (mOp kSub (mOp kIx (mVal 2) (mVal 5)) (mOp kIx (mVal 2) (mVal 4))) [.val (webD m ts), .val (rowD c), .val (rowD r), .own ((cs.set a.toNat (atN cs a - (atN r a - atN r b))).map D.int), .val (.int a), .val (.int b)] q' = .next [.val (webD m ts), .val (rowD c), .val (rowD r), .own (((cs.set a.toNat (atN cs a - (atN r a - atN r b))).set b.toNat (atN (cs.set a.toNat (atN cs a - (atN r a - atN r b))) b - (atN r b - atN r a))).map D.int), .val (.int a), .val (.int b)] q' :=
      aug_of (q1 := q') (q2 := q') rfl rfl (by omega) (by rw [List.length_set]; omega) (op_of (op_of rfl rfl rb) (op_of rfl rfl ra) rfl)
    refine ⟨_, rfl, _, q', .inl ((seq_next f1).trans f2), rfl, .val (.int a), .val (.int b), ?_⟩
    rw [et]
    unfold stp
    simp only
    rw [atN_set o1 (by omega) (by omega), if_neg (by omega)]
  obtain ⟨hq, s5, s6, e⟩ := h2
  subst e hq
  rw [Nat.zero_add, List.take_length] at h1
  show (b_fired_by [.val (webD m ts), .val (rowD c), .val (rowD r), .un, .un, .un] q2).fin = _
  unfold b_fired_by
  rw [seq_next e1, seq_next ((for_of (mit_tup (fld_t rfl))).trans h1), ret_of (call_of (acc rfl ac0) (tuple_lst _))]
  rfl
end Lw
end Pu
end

section
set_option maxHeartbeats 4000000
namespace Pu
namespace Lw
open PySem PySem.Spec PyProof.Rows L2
theorem gt_int (i j : Int) : kGt (.int i) (.int j) = some (.bl (decide (i > j))) := rfl
theorem need_web {m : Int} {ts : List (Int × Int)} (j : Jn m ts) (m8 : m ≤ 8) (q : Pen) : m_need_chip_web [webD m ts] q = .ok .non q := by
  obtain ⟨d, e, k⟩ := parts_max j.w.m1 j.w.m2 j q
  have t1 : mT (mOp kGt (mCall kMaxA (aCons (mFn m_parts_by (aCons (mFld fl_many "many" (mVal 0)) (aCons (mFld fl_ties "ties" (mVal 0)) aNil))) aNil)) (mC (.int 0))) [.val (webD m ts)] q = .ok false q := t_of (op_of (call_of (acc ((fn2 (fld_m rfl) (fld_t rfl)).trans e) ac0) k) rfl rfl)
  have t2 : mT (mOp kGt (mFld fl_many "many" (mVal 0)) (mC (.int 8))) [.val (webD m ts)] q = .ok false q := t_of (op_of (fld_m rfl) rfl (by rw [gt_int, decide_eq_false (by omega)]))
  show (b_need_chip_web [.val (webD m ts)] q).fin = _
  unfold b_need_chip_web
  rw [seq_next (if_skip t1), if_skip t2]
  rfl
theorem need_web_many {m : Int} {ts : List (Int × Int)} (j : Jn m ts) (m8 : 8 < m) (q : Pen) : m_need_chip_web [webD m ts] q = .err ⟨"TooMany", [("limit", .int 8), ("many", .int m), ("what", .str "nodes")]⟩ q := by
  obtain ⟨d, e, k⟩ := parts_max j.w.m1 j.w.m2 j q
  have t1 : mT (mOp kGt (mCall kMaxA (aCons (mFn m_parts_by (aCons (mFld fl_many "many" (mVal 0)) (aCons (mFld fl_ties "ties" (mVal 0)) aNil))) aNil)) (mC (.int 0))) [.val (webD m ts)] q = .ok false q := t_of (op_of (call_of (acc ((fn2 (fld_m rfl) (fld_t rfl)).trans e) ac0) k) rfl rfl)
  have t2 : mT (mOp kGt (mFld fl_many "many" (mVal 0)) (mC (.int 8))) [.val (webD m ts)] q = .ok true q := t_of (op_of (fld_m rfl) rfl (by rw [gt_int, decide_eq_true (by omega)]))
  show (b_need_chip_web [.val (webD m ts)] q).fin = _
  unfold b_need_chip_web
  rw [seq_next (if_skip t1), if_t t2, raise_of (acc rfl (acc (fld_m rfl) (acc rfl ac0))) rfl]
  rfl
theorem parts_two (q : Pen) : m_parts_by [.int 3, prsD [(0, 1)]] q = .ok (.lst [.int 0, .int 0, .int 2]) q := rfl
theorem need_web_un (q : Pen) : m_need_chip_web [webD 3 [(0, 1)]] q = .err ⟨"Unlike", [("what", .str "web")]⟩ q := by
  have t1 : mT (mOp kGt (mCall kMaxA (aCons (mFn m_parts_by (aCons (mFld fl_many "many" (mVal 0)) (aCons (mFld fl_ties "ties" (mVal 0)) aNil))) aNil)) (mC (.int 0))) [.val (webD 3 [(0, 1)])] q = .ok true q := t_of (op_of (d := .int 2) (call_of (acc ((fn2 (fld_m rfl) (fld_t rfl)).trans (parts_two q)) ac0) rfl) rfl rfl)
  show (b_need_chip_web [.val (webD 3 [(0, 1)])] q).fin = _
  unfold b_need_chip_web
  rw [seq_err (if_t t1 |>.trans (raise_of (acc rfl ac0) rfl))]
  rfl
/-- a row as it must be -/
def Gd (m : Int) (d : D) (ns : List Int) : Prop := (d = .lst (ns.map D.int) ∨ d = .tup (ns.map D.int)) ∧ ns.length = m.toNat
/-- a value that is no row of so many -/
def IxB (m : Int) (d : D) : Prop := ∀ q, m_is_indexes [d, .int m] q = .ok (.bl false) q
def errR (w : Str) (d : D) : Err := ⟨"BadRow", [("row", d), ("what", .str w)]⟩
theorem chips_ok {m : Int} {ts : List (Int × Int)} {d : D} {ns : List Int} (g : Gd m d ns) (m1 : 0 ≤ m) (m2 : m ≤ 16) (w : Str) (q : Pen) : m_need_chips [webD m ts, d, .str w] q = .ok (rowD ns) q := by
  have e := m_indexes g.1 (by rw [sizeLine_eq]; have := g.2; omega) m q
  rw [decide_eq_true (by have := g.2; omega)] at e
  have t : mTNot (mT (mFn m_is_indexes (aCons (mVal 1) (aCons (mFld fl_many "many" (mVal 0)) aNil)))) [.val (webD m ts), .val d, .val (.str w)] q = .ok false q := not_of (t_of ((fn2 rfl (fld_m rfl)).trans e))
  show (b_need_chips [.val (webD m ts), .val d, .val (.str w)] q).fin = _
  unfold b_need_chips
  rw [seq_next (if_skip t), ret_of (call_of (z := .tup (ns.map D.int)) (acc rfl ac0) (by rcases g.1 with rfl | rfl <;> rfl))]
  rfl
theorem chips_bad {m : Int} {ts : List (Int × Int)} {d : D} (b : IxB m d) (w : Str) (q : Pen) : m_need_chips [webD m ts, d, .str w] q = .err (errR w d) q := by
  have t : mTNot (mT (mFn m_is_indexes (aCons (mVal 1) (aCons (mFld fl_many "many" (mVal 0)) aNil)))) [.val (webD m ts), .val d, .val (.str w)] q = .ok true q := not_of (t_of ((fn2 rfl (fld_m rfl)).trans (b q)))
  show (b_need_chips [.val (webD m ts), .val d, .val (.str w)] q).fin = _
  unfold b_need_chips
  rw [seq_err ((if_t t).trans (raise_of (acc rfl (acc rfl ac0)) rfl))]
  rfl
section
variable {m : Int} {ts : List (Int × Int)} {c r : D} {cs rs : List Int}
theorem m_fired_ok (j : Jn m ts) (m8 : m ≤ 8) (g : Gd m c cs) (g2 : Gd m r rs) (q : Pen) : m_fired [webD m ts, c, r] q = .ok (rowD (fire ts cs rs)) q := by
  have m1 := j.w.m1
  have e1 : mDrop (mFn m_need_chip_web (aCons (mVal 0) aNil)) [.val (webD m ts), .val c, .val r, .un] q = .next [.val (webD m ts), .val c, .val r, .un] q := drop_of ((fn1 rfl).trans (need_web j m8 q))
  have e2 : mSet (mFn m_need_chips (aCons (mVal 0) (aCons (mVal 1) (aCons (mC (.str "chips")) aNil)))) (gNm 3) [.val (webD m ts), .val c, .val r, .un] q = .next [.val (webD m ts), .val c, .val r, .val (rowD cs)] q := set_of ((fn3 rfl rfl rfl).trans (chips_ok g (by omega) (by omega) _ q)) rfl
  show (b_fired [.val (webD m ts), .val c, .val r, .un] q).fin = _
  unfold b_fired
  rw [seq_next e1, seq_next e2, ret_of ((fn3 rfl rfl ((fn3 rfl rfl rfl).trans (chips_ok g2 (by omega) (by omega) _ q))).trans (m_firedby g.2 g2.2 (by omega) j.w.t q))]
  rfl
theorem fired_bad1 (j : Jn m ts) (m8 : m ≤ 8) (b : IxB m c) (q : Pen) : m_fired [webD m ts, c, r] q = .err (errR "chips" c) q := by
  have e1 : mDrop (mFn m_need_chip_web (aCons (mVal 0) aNil)) [.val (webD m ts), .val c, .val r, .un] q = .next [.val (webD m ts), .val c, .val r, .un] q := drop_of ((fn1 rfl).trans (need_web j m8 q))
  have e2 : mSet (mFn m_need_chips (aCons (mVal 0) (aCons (mVal 1) (aCons (mC (.str "chips")) aNil)))) (gNm 3) [.val (webD m ts), .val c, .val r, .un] q = .err (errR "chips" c) [.val (webD m ts), .val c, .val r, .un] q := set_err ((fn3 rfl rfl rfl).trans (chips_bad b _ q))
  show (b_fired [.val (webD m ts), .val c, .val r, .un] q).fin = _
  unfold b_fired
  rw [seq_next e1, seq_err e2]
  rfl
theorem fired_bad2 (j : Jn m ts) (m8 : m ≤ 8) (g : Gd m c cs) (b : IxB m r) (q : Pen) : m_fired [webD m ts, c, r] q = .err (errR "row" r) q := by
  have m1 := j.w.m1
  have e1 : mDrop (mFn m_need_chip_web (aCons (mVal 0) aNil)) [.val (webD m ts), .val c, .val r, .un] q = .next [.val (webD m ts), .val c, .val r, .un] q := drop_of ((fn1 rfl).trans (need_web j m8 q))
  have e2 : mSet (mFn m_need_chips (aCons (mVal 0) (aCons (mVal 1) (aCons (mC (.str "chips")) aNil)))) (gNm 3) [.val (webD m ts), .val c, .val r, .un] q = .next [.val (webD m ts), .val c, .val r, .val (rowD cs)] q := set_of ((fn3 rfl rfl rfl).trans (chips_ok g (by omega) (by omega) _ q)) rfl
  show (b_fired [.val (webD m ts), .val c, .val r, .un] q).fin = _
  unfold b_fired
  rw [seq_next e1, seq_next e2, ret_err (fn3_err rfl rfl ((fn3 rfl rfl rfl).trans (chips_bad b _ q)))]
  rfl
theorem fired_web {w : D} {e : Err} {q : Pen} (h : m_need_chip_web [w] q = .err e q) : m_fired [w, c, r] q = .err e q := by
  have e1 : mDrop (mFn m_need_chip_web (aCons (mVal 0) aNil)) [.val w, .val c, .val r, .un] q = .err e [.val w, .val c, .val r, .un] q := drop_err ((fn1 rfl).trans h)
  show (b_fired [.val w, .val c, .val r, .un] q).fin = _
  unfold b_fired
  rw [seq_err e1]
  rfl
end
theorem m_degrees {m : Int} {ts : List (Int × Int)} (m1 : 0 ≤ m) (m2 : m ≤ 16) (ht : ∀ p ∈ ts, okT m p) (q : Pen) : m_degrees_in [webD m ts] q = .ok (.lst ((degs ts (List.replicate m.toNat 0)).map D.int)) q := by
  let I : Nat → Env → Pen → Prop := fun n env q' => q' = q ∧ ∃ (s2 s3 : Slot), env = [.val (webD m ts), .own ((degs (ts.take n) (List.replicate m.toNat 0)).map D.int), s2, s3]
  have kr : kRep (.lst [.int 0]) (.int m) = some ((List.replicate m.toNat 0).map D.int) := by
    show (if -(2^63) ≤ m ∧ m < 2^63 ∧ [D.int 0].length * m.toNat ≤ sizeLine then some (List.replicate m.toNat [D.int 0]).flatten else none) = _
    rw [if_pos ⟨by omega, by omega, by rw [sizeLine_eq]; show 1 * _ ≤ _; omega⟩, List.flatten_replicate_singleton, List.map_replicate]
  have e1 : mSetO (mFOp kRep (mFr (mLst (aCons (mC (.int 0)) aNil))) (mFld fl_many "many" (mVal 0))) 1 [.val (webD m ts), .un, .un, .un] q = .next [.val (webD m ts), .own ((List.replicate m.toNat 0).map D.int), .un, .un] q := seto_of (fop_of (d := .lst [.int 0]) rfl (fld_m rfl) kr)
  obtain ⟨e2, q2, h1, h2⟩ := loop_inv (g := gTp (gsCons (gNm 2) (gsCons (gNm 3) gsNil))) (b := mSeq (mAugIx (fun i j => i + j) 1 (mVal 2) (mC (.int 1))) (mAugIx (fun i j => i + j) 1 (mVal 3) (mC (.int 1)))) prD I ts 0 [.val (webD m ts), .own ((List.replicate m.toNat 0).map D.int), .un, .un] q ⟨rfl, .un, .un, rfl⟩ fun i hi env q' ⟨hq, s2, s3, e⟩ => by
    subst e hq
    rw [Nat.zero_add]
    obtain ⟨o1, o2, o3⟩ := ht _ (List.getElem_mem hi)
    have hf : (degs (ts.take i) (List.replicate m.toNat 0)).length = m.toNat := by rw [degs_len, List.length_replicate]
    have et : degs (ts.take (i + 1)) (List.replicate m.toNat 0) = dst (degs (ts.take i) (List.replicate m.toNat 0)) ts[i] := by
      rw [List.take_succ, List.getElem?_eq_getElem hi]
      show List.foldl _ _ _ = _
      rw [List.foldl_append]
      rfl
    generalize degs (ts.take i) (List.replicate m.toNat 0) = cs at hf et
    generalize ts[i] = p at o1 o2 o3 et
    obtain ⟨a, b⟩ := p
    simp only at o1 o2 o3
    have f1 : mAugIx (fun i j => i + j) 1 (mVal 2) (mC (.int 1)) [.val (webD m ts), .own (cs.map D.int), .val (.int a), .val (.int b)] q' = .next [.val (webD m ts), .own ((cs.set a.toNat (atN cs a + 1)).map D.int), .val (.int a), .val (.int b)] q' :=
      aug_of (q1 := q') (q2 := q') rfl rfl o1 (by omega) rfl
    have f2 : mAugIx (fun i j => i + j) 1 (mVal 3) (mC (.int 1)) [.val (webD m ts), .own ((cs.set a.toNat (atN cs a + 1)).map D.int), .val (.int a), .val (.int b)] q' = .next [.val (webD m ts), .own (((cs.set a.toNat (atN cs a + 1)).set b.toNat (atN (cs.set a.toNat (atN cs a + 1)) b + 1)).map D.int), .val (.int a), .val (.int b)] q' :=
      aug_of (q1 := q') (q2 := q') rfl rfl (by omega) (by rw [List.length_set]; omega) rfl
    refine ⟨_, rfl, _, q', .inl ((seq_next f1).trans f2), rfl, .val (.int a), .val (.int b), ?_⟩
    rw [et]
    unfold dst
    simp only
    rw [atN_set o1 (by omega) (by omega), if_neg (by omega)]
  obtain ⟨hq, s2, s3, e⟩ := h2
  subst e hq
  rw [Nat.zero_add, List.take_length] at h1
  show (b_degrees_in [.val (webD m ts), .un, .un, .un] q2).fin = _
  unfold b_degrees_in
  rw [seq_next e1, seq_next ((for_of (mit_tup (fld_t rfl))).trans h1)]
  rfl
def canon (m : Int) (ts : List (Int × Int)) : List Int := (degs ts (List.replicate m.toNat 0)).map fun x => x - 2
theorem m_canonical_ok {m : Int} {ts : List (Int × Int)} (j : Jn m ts) (m8 : m ≤ 8) (q : Pen) : m_canonical [webD m ts] q = .ok (rowD (canon m ts)) q := by
  have m1 := j.w.m1
  have e1 : mDrop (mFn m_need_chip_web (aCons (mVal 0) aNil)) [.val (webD m ts), .un] q = .next [.val (webD m ts), .un] q := drop_of ((fn1 rfl).trans (need_web j m8 q))
  have hc : mComp (mIt (mFn m_degrees_in (aCons (mVal 0) aNil))) [1] (gNm 1) tmYes (mOp kSub (mVal 1) (mC (.int 2))) [.val (webD m ts), .un] q = .ok ((degs ts (List.replicate m.toNat 0)).map fun x => D.int (x - 2)) q := comp_ofM D.int (fun x => .int (x - 2)) (mit_lst ((fn1 rfl).trans (m_degrees (by omega) (by omega) j.w.t q))) (by rw [degs_len, List.length_replicate, sizeLine_eq]; omega) fun x hx => ⟨_, rfl, rfl⟩
  show (b_canonical [.val (webD m ts), .un] q).fin = _
  unfold b_canonical
  rw [seq_next e1, ret_of (call_of (acc (fr_of hc) ac0) (tuple_lst _))]
  unfold rowD canon
  rw [List.map_map]
  rfl
theorem canonical_web {w : D} {e : Err} {q : Pen} (h : m_need_chip_web [w] q = .err e q) : m_canonical [w] q = .err e q := by
  have e1 : mDrop (mFn m_need_chip_web (aCons (mVal 0) aNil)) [.val w, .un] q = .err e [.val w, .un] q := drop_err ((fn1 rfl).trans h)
  show (b_canonical [.val w, .un] q).fin = _
  unfold b_canonical
  rw [seq_err e1]
  rfl
end Lw
end Pu
end

section
set_option maxHeartbeats 4000000
namespace Pu
namespace Lw
open PySem PySem.Spec PyProof.Rows L2
/-! #### bent rows -/
theorem isi_T {d : D} (h : d.bs = true) : kIsi objL exL ask [d, .ty "tuple"] = some (.bl (match d with | .tup _ => true | _ => false)) := by
  cases d <;> first
    | (cases h; done)
    | simp [kIsi, D.tag, ask, askT, kb_NoneType_tuple, kb_bool_tuple, kb_int_tuple, kb_str_tuple, kb_tuple_tuple, kb_list_tuple, kb_dict_tuple]
theorem isi_iS (i : Int) : kIsi objL exL ask [.int i, .ty "str"] = some (.bl false) := by
  simp [kIsi, D.tag, ask, askT, kb_int_str]
theorem shw_dct0 : Shw 1 0 (.dct []) := ⟨rfl, rfl, rfl, by decide, by decide⟩
structure Rp (d : D) : Prop where
  ok : d.okP = true
  rep : kRepr [d] = some (.str d.pr.shown)
  sm : Sm d.pr.shown
theorem Rp.noX {d : D} (h : Rp d) : d.noX = true := noX_okP d h.ok
theorem Rp.noC {d : D} (h : Rp d) : d.noC = true := noC_okP d h.ok
structure Od (d : D) : Prop where
  w : Shw 3 2000 d
  s : smL d.pr = true
  v : d.bs = true
theorem Od.rp {d : D} (h : Od d) : Rp d := ⟨h.w.ok, h.w.repr (by decide) (by decide), sm_shown _ h.s⟩
theorem od_of {B n : Nat} {d : D} (h : Shw B n d) (hB : B ≤ 3) (hn : n ≤ 2000) (hv : d.bs = true) (hs : smL d.pr = true) : Od d := ⟨h.mono hB hn, hs, hv⟩
theorem od_non : Od .non := od_of shw_non (by decide) (by decide) rfl rfl
theorem od_bl (b : Bool) : Od (.bl b) := od_of (shw_bl b) (by decide) (by decide) rfl rfl
theorem od_int {r : Int} (h : r.natAbs < 10 ^ 45) : Od (.int r) := od_of (shw_int h) (by decide) (by decide) rfl rfl
theorem od_str {x : Str} (h : Sm x) (hl : x.length ≤ 2000) : Od (.str x) := od_of (Shw.str h) (by decide) hl rfl (smL_str h)
theorem od_ints {ns : List Int} (h : ∀ n ∈ ns, n.natAbs < 10 ^ 45) (hl : ns.length ≤ 2000) : Od (.tup (ns.map D.int)) := od_of (Shw.tup (shws_ints h)) (by decide) hl rfl (by
  simp only [D.pr, smL]
  exact smLs_ints ns)
theorem od_lst {ns : List Int} (h : ∀ n ∈ ns, n.natAbs < 10 ^ 45) (hl : ns.length ≤ 2000) : Od (.lst (ns.map D.int)) := od_of (Shw.lst (shws_ints h)) (by decide) hl rfl (by
  simp only [D.pr, smL]
  exact smLs_ints ns)
theorem od_dct : Od (.dct []) := od_of shw_dct0 (by decide) (by decide) rfl rfl
theorem od_bi (b : Bool) {r : Int} (h : r.natAbs < 10 ^ 45) : Od (.tup [.bl b, .int r]) := od_of (Shw.tup (.cons (shw_bl b) (.cons (shw_int h) .nil))) (by decide) (by decide) rfl rfl
theorem m_odd (q : Pen) : ∃ d q', m__law_odd [.pen] q = .ok d q' ∧ Od d ∧ d.isI1 = false := by
  obtain ⟨d, q', hd, e⟩ := m_pick q (.lst [.non, .bl true, .bl false, .str "1", .str "", .tup [.int 1, .int 1], .tup [.int 2, .int 4], .tup [.int 1, .int 0], .tup [.int 1, .int (-2)], .lst [.int 1, .int 2], .tup [.int 1, .int 2, .int 3], .tup [.bl true, .int 2], .tup [], .tup [.int 0, .int 3], .dct []]) _ rfl (.inl rfl) (by simp) (by simp)
  refine ⟨d, q', by simp -implicitDefEqProofs [mDef, env0, env1, mDefI, mSeq, mSet, mSetO, mIfS, mTAnd, mTOr, mTNot, mT, mV, mIf, mOp, mChain, mCall, mFn, mFCall, mFr, mTup, mLst, aCons, aNil, mVal, mOwn, mC, mNeg, mNext, mRet, mDrop, bind_ok, bind_err, res_ok, res_err, Res.fin, Out.ne, gNm, gTp, gsCons, gsNil, mIt, mRng1, mSl, oNone, oSome, kInt, add_int, len_tup, len_lst, tuple_lst, tuple_tup, mMk, mIn, mFlds, putD, mChk, mDo, mRaise, mApp, mAppPop, mSetIx, mLRg, mRg1, mTRg, mRg2, mPar2, sVal, sOwn, sNil, D.isFn, sizeLine_eq, eq_int, ne_int, wipeE, m__law_odd, b__law_odd, e], ?_⟩
  simp only [List.mem_cons, List.not_mem_nil, or_false] at hd
  rcases hd with rfl | rfl | rfl | rfl | rfl | rfl | rfl | rfl | rfl | rfl | rfl | rfl | rfl | rfl | rfl
  · exact ⟨od_non, rfl⟩
  · exact ⟨od_bl _, rfl⟩
  · exact ⟨od_bl _, rfl⟩
  · exact ⟨od_str (Sm.lit _) (by decide +kernel), rfl⟩
  · exact ⟨od_str (Sm.lit _) (by decide +kernel), rfl⟩
  · exact ⟨od_ints (ns := [1, 1]) (by simp) (by decide), rfl⟩
  · exact ⟨od_ints (ns := [2, 4]) (by simp) (by decide), rfl⟩
  · exact ⟨od_ints (ns := [1, 0]) (by simp) (by decide), rfl⟩
  · exact ⟨od_ints (ns := [1, -2]) (by simp) (by decide), rfl⟩
  · exact ⟨od_lst (ns := [1, 2]) (by simp) (by decide), rfl⟩
  · exact ⟨od_ints (ns := [1, 2, 3]) (by simp) (by decide), rfl⟩
  · exact ⟨od_bi true (by decide), rfl⟩
  · exact ⟨od_ints (ns := []) (by simp) (by decide), rfl⟩
  · exact ⟨od_ints (ns := [0, 3]) (by simp) (by decide), rfl⟩
  · exact ⟨od_dct, rfl⟩
theorem rp_row {ds : List D} (h : ∀ d ∈ ds, Od d) (hl : ds.length ≤ 10) : Rp (.tup ds) := by
  have go : ∀ {l : List D}, (∀ d ∈ l, Od d) → Shws 3 (l.length * 2001) l := fun {l} hl => by
    induction l with
    | nil => exact .nil
    | cons d l ih =>
      have e : (d :: l).length * 2001 = 2000 + 1 + l.length * 2001 := by rw [List.length_cons]; omega
      rw [e]
      exact .cons (hl d List.mem_cons_self).w (ih fun x hx => hl x (List.mem_cons_of_mem _ hx))
  have gs : ∀ {l : List D}, (∀ d ∈ l, Od d) → smLs (D.prs l) = true := fun {l} hl => by
    induction l with
    | nil => rfl
    | cons d l ih =>
      simp only [D.prs, smLs, Bool.and_eq_true]
      exact ⟨(hl d List.mem_cons_self).s, ih fun x hx => hl x (List.mem_cons_of_mem _ hx)⟩
  have w := Shw.tup (go h)
  refine ⟨w.ok, w.repr (by decide) (by omega), sm_shown _ ?_⟩
  simp only [D.pr, smL]
  exact gs h
theorem m_indexesG {ds : List D} (hb : ∀ d ∈ ds, d.bs = true) (hl : ds.length ≤ 1000) (n : Int) (q : Pen) : m_is_indexes [.tup ds, .int n] q = .ok (.bl (decide ((ds.length : Int) = n) && ds.all D.isI1)) q := by
  have e1 := m_list (d := .tup ds) rfl q
  have e2 : kLen [.tup ds] = some (.int ds.length) := rfl
  have hc : mComp (mIt (mVal 0)) [2] (gNm 2) tmYes (mFn m_is_integer (aCons (mVal 2) aNil)) [.val (.tup ds), .val (.int n), .un] q = .ok (ds.map fun d => .bl d.isI1) q := comp_map (fun d => .bl d.isI1) rfl (by rw [sizeLine_eq]; omega) fun d hd => ⟨_, rfl, (fn1 rfl).trans (m_integer (hb d hd) q)⟩
  have ha : kAll [.lst (ds.map fun d => D.bl d.isI1)] = some (.bl (ds.all D.isI1)) := all_map _ _
  by_cases h : (ds.length : Int) = n
  · simp -implicitDefEqProofs [mDef, env0, env1, mDefI, mSeq, mSet, mSetO, mIfS, mTAnd, mTOr, mTNot, mT, mV, mIf, mOp, mChain, mCall, mFn, mFCall, mFr, mTup, mLst, aCons, aNil, mVal, mOwn, mC, mNeg, mNext, mRet, mDrop, bind_ok, bind_err, res_ok, res_err, Res.fin, Out.ne, gNm, gTp, gsCons, gsNil, mIt, mRng1, mSl, oNone, oSome, kInt, add_int, len_tup, len_lst, tuple_lst, tuple_tup, mMk, mIn, mFlds, putD, mChk, mDo, mRaise, mApp, mAppPop, mSetIx, mLRg, mRg1, mTRg, mRg2, mPar2, sVal, sOwn, sNil, D.isFn, sizeLine_eq, eq_int, ne_int, wipeE, m_is_indexes, b_is_indexes, e1, e2, D.isL, hc, ha, h]
  · simp -implicitDefEqProofs [mDef, env0, env1, mDefI, mSeq, mSet, mSetO, mIfS, mTAnd, mTOr, mTNot, mT, mV, mIf, mOp, mChain, mCall, mFn, mFCall, mFr, mTup, mLst, aCons, aNil, mVal, mOwn, mC, mNeg, mNext, mRet, mDrop, bind_ok, bind_err, res_ok, res_err, Res.fin, Out.ne, gNm, gTp, gsCons, gsNil, mIt, mRng1, mSl, oNone, oSome, kInt, add_int, len_tup, len_lst, tuple_lst, tuple_tup, mMk, mIn, mFlds, putD, mChk, mDo, mRaise, mApp, mAppPop, mSetIx, mLRg, mRg1, mTRg, mRg2, mPar2, sVal, sOwn, sNil, D.isFn, sizeLine_eq, eq_int, ne_int, wipeE, m_is_indexes, b_is_indexes, e1, e2, D.isL, hc, ha, h]
/-- ints that errors can show -/
def Sz (ns : List Int) : Prop := ∀ n ∈ ns, n.natAbs < 10 ^ 45
theorem sz_od {ns : List Int} (h : Sz ns) : ∀ d ∈ ns.map D.int, Od d := fun d hd => by
  obtain ⟨n, hn, rfl⟩ := List.mem_map.mp hd
  exact od_int (h n hn)
/-- what a bent row is: no row, and to be shown -/
structure Bent (m : Int) (v : D) : Prop where
  r : Rp v
  i : IxB m v
theorem bent_len {m : Int} {ns : List Int} (h : Sz ns) (hl : ns.length ≤ 10) (hn : (ns.length : Int) ≠ m) : Bent m (rowD ns) := ⟨rp_row (sz_od h) (by rw [List.length_map]; exact hl), fun q => by
  rw [rowD, m_indexes (.inr rfl) (by rw [sizeLine_eq]; omega), decide_eq_false hn]⟩
theorem bent_no {m : Int} {d : D} (o : Od d) (h : d.isL = false) : Bent m d := ⟨o.rp, fun q => m_indexes0 o.v h _ q⟩
theorem ifS {t : TM} {a b : SM} {env : Env} {q q2 : Pen} {c : Bool} (h : t env q = .ok c q2) : mIfS t a b env q = if c = true then a env q2 else b env q2 := by
  unfold mIfS
  rw [h]
  rfl
theorem m_bent {m : Int} {ns : List Int} (h : Sz ns) (hm : ns.length = m.toNat) (m1 : 1 ≤ m) (m8 : m ≤ 8) (q : Pen) : ∃ v q', m__law_bent_row [.pen, rowD ns] q = .ok v q' ∧ Bent m v := by
  have hl : ns.length ≤ 8 := by omega
  have hp : 0 < ns.length := by omega
  obtain ⟨w, q1, d1, w0, w1⟩ := m_draw q 4 (by decide) (by decide)
  have s0 : (mSet (mFn m__law_draw (aCons (mVal 0) (aCons (mC (.int 4)) aNil))) (gNm 2)) [.val .pen, .val (rowD ns), .un, .un] q = .next [.val .pen, .val (rowD ns), .val (.int w), .un] q1 := set_of ((fn2 rfl rfl).trans d1) rfl
  have fin : ∀ v q', b__law_bent_row [.val .pen, .val (rowD ns), .un, .un] q = .ret v q' → m__law_bent_row [.pen, rowD ns] q = .ok v q' := fun v q' e => by
    show (b__law_bent_row [.val .pen, .val (rowD ns), .un, .un] q).fin = _
    rw [e]
    rfl
  have lt : kLen [rowD ns] = some (.int ns.length) := by simp [rowD, kLen]
  have t0 : ∀ k : Int, (mTAnd (mT (mOp kEq (mVal 2) (mC (.int k)))) (mT (mOp kGt (mCall kLen (aCons (mVal 1) aNil)) (mC (.int 0))))) [.val .pen, .val (rowD ns), .val (.int w), .un] q1 = .ok (w == k) q1 := fun k => by
    have a : mT (mOp kEq (mVal 2) (mC (.int k))) [.val .pen, .val (rowD ns), .val (.int w), .un] q1 = .ok (w == k) q1 := t_of (op_of rfl rfl (eq_int _ _))
    cases c : w == k with
    | false =>
      rw [c] at a
      exact and_f a
    | true =>
      rw [c] at a
      exact (and_t a).trans (t_of (op_of (call_of (acc rfl ac0) lt) rfl (by rw [gt_int, decide_eq_true (by omega)])))
  by_cases c0 : w = 0
  · subst c0
    have ks : kSl (rowD ns) none (some (-1)) = some (rowD ns.dropLast) := by
      show some (D.tup (cutD (ns.map D.int) none (some (-1)))) = _
      rw [cut_last, ← List.map_dropLast]
      rfl
    refine ⟨rowD ns.dropLast, q1, fin _ _ ?_, bent_len (fun d hd => h d (List.dropLast_subset ns hd)) (by rw [List.length_dropLast]; omega) (by rw [List.length_dropLast]; omega)⟩
    unfold b__law_bent_row
    rw [seq_next s0]
    refine seq_ret ?_
    rw [if_t (show _ = Out.ok true q1 from t0 0)]
    simp -implicitDefEqProofs [mDef, env0, env1, mDefI, mSeq, mSet, mSetO, mIfS, mTAnd, mTOr, mTNot, mT, mV, mIf, mOp, mChain, mCall, mFn, mFCall, mFr, mTup, mLst, aCons, aNil, mVal, mOwn, mC, mNeg, mNext, mRet, mDrop, bind_ok, bind_err, res_ok, res_err, Res.fin, Out.ne, gNm, gTp, gsCons, gsNil, mIt, mRng1, mSl, oNone, oSome, kInt, add_int, len_tup, len_lst, tuple_lst, tuple_tup, mMk, mIn, mFlds, putD, mChk, mDo, mRaise, mApp, mAppPop, mSetIx, mLRg, mRg1, mTRg, mRg2, mPar2, sVal, sOwn, sNil, D.isFn, sizeLine_eq, eq_int, ne_int, wipeE, ks]
  · have s1 := (ifS (a := (mRet (mSl (mVal 1) oNone (oSome (mNeg (mC (.int 1))))))) (b := mNext) (t0 0)).trans (if_neg (by rw [beq_iff_eq]; exact c0))
    have t1 : (mT (mOp kEq (mVal 2) (mC (.int 1)))) [.val .pen, .val (rowD ns), .val (.int w), .un] q1 = .ok (w == 1) q1 := t_of (op_of rfl rfl (eq_int _ _))
    by_cases c1 : w = 1
    · subst c1
      obtain ⟨k, q2, d2, k0, k1⟩ := m_draw q1 3 (by decide) (by decide)
      have ka : kAdd (rowD ns) (.tup [.int k]) = some (rowD (ns ++ [k])) := by
        show (if (ns.map D.int).length + [D.int k].length ≤ sizeLine then some (D.tup (ns.map D.int ++ [.int k])) else none) = _
        rw [if_pos (by rw [sizeLine_eq, List.length_singleton, List.length_map]; omega), rowD, List.map_append]
        rfl
      refine ⟨rowD (ns ++ [k]), q2, fin _ _ ?_, bent_len (fun d hd => ?_) (by rw [List.length_append, List.length_singleton]; omega) (by rw [List.length_append, List.length_singleton]; omega)⟩
      · unfold b__law_bent_row
        rw [seq_next s0, seq_next s1]
        refine seq_ret ?_
        rw [if_t (show _ = Out.ok true q1 from t1)]
        exact ret_of (op_of rfl (tup_of (acc ((fn2 rfl rfl).trans d2) ac0) (by simp)) ka)
      · rcases List.mem_append.mp hd with hd | hd
        · exact h d hd
        · rw [List.mem_singleton.mp hd]
          omega
    · have s2 := (ifS (a := (mRet (mOp kAdd (mVal 1) (mTup (aCons (mFn m__law_draw (aCons (mVal 0) (aCons (mC (.int 3)) aNil))) aNil))))) (b := mNext) t1).trans (if_neg (by rw [beq_iff_eq]; exact c1))
      by_cases c2 : w = 2
      · subst c2
        obtain ⟨k, q2, d2, k0, k1⟩ := m_draw q1 ns.length (by omega) (by omega)
        obtain ⟨d, q3, d3, o, nr⟩ := m_odd q2
        have t1 : kSl (rowD ns) none (some k) = some (.tup ((ns.map D.int).take k.toNat)) := by
          show some (D.tup (cutD (ns.map D.int) none (some k))) = _
          rw [cut_take _ k0]
        have t2 : kSl (rowD ns) (some (k + 1)) none = some (.tup ((ns.map D.int).drop (k + 1).toNat)) := by
          show some (D.tup (cutD (ns.map D.int) (some (k + 1)) none)) = _
          rw [cut_drop _ (by omega)]
        have xl : (ns.map D.int).length = ns.length := List.length_map ..
        have items0 := sz_od h
        generalize ns.map D.int = xs at xl items0 t1 t2
        have la : (xs.take k.toNat).length ≤ 8 := by rw [List.length_take]; omega
        have lb : (xs.take k.toNat).length + 1 + (xs.drop (k + 1).toNat).length ≤ 9 := by rw [List.length_take, List.length_drop]; omega
        have ka : kAdd (.tup (xs.take k.toNat)) (.tup [d]) = some (.tup (xs.take k.toNat ++ [d])) := if_pos (by rw [sizeLine_eq, List.length_singleton]; omega)
        have kb : kAdd (.tup (xs.take k.toNat ++ [d])) (.tup (xs.drop (k + 1).toNat)) = some (.tup (xs.take k.toNat ++ [d] ++ xs.drop (k + 1).toNat)) := if_pos (by rw [sizeLine_eq, List.length_append, List.length_singleton]; omega)
        have items : ∀ x ∈ xs.take k.toNat ++ [d] ++ xs.drop (k + 1).toNat, Od x := fun x hm => by
          rcases List.mem_append.mp hm with hm | hm
          · rcases List.mem_append.mp hm with hm | hm
            · exact items0 x (List.mem_of_mem_take hm)
            · rw [List.mem_singleton.mp hm]
              exact o
          · exact items0 x (List.mem_of_mem_drop hm)
        have ll : (xs.take k.toNat ++ [d] ++ xs.drop (k + 1).toNat).length ≤ 9 := by rw [List.length_append, List.length_append, List.length_singleton]; omega
        refine ⟨.tup (xs.take k.toNat ++ [d] ++ xs.drop (k + 1).toNat), q3, fin _ _ ?_, rp_row items (by omega), fun q => ?_⟩
        · unfold b__law_bent_row
          rw [seq_next s0, seq_next s1, seq_next s2]
          refine seq_ret ?_
          rw [if_t (show _ = Out.ok true q1 from t0 2)]
          rw [seq_next (e2 := [.val .pen, .val (rowD ns), .val (.int 2), .val (.int k)]) (q2 := q2) (set_of ((fn2 rfl (call_of (acc rfl ac0) lt)).trans d2) rfl)]
          generalize xs.take k.toNat = xa at *
          generalize xs.drop (k + 1).toNat = xb at *
          generalize rowD ns = rr at *
          simp -implicitDefEqProofs [mDef, env0, env1, mDefI, mSeq, mSet, mSetO, mIfS, mTAnd, mTOr, mTNot, mT, mV, mIf, mOp, mChain, mCall, mFn, mFCall, mFr, mTup, mLst, aCons, aNil, mVal, mOwn, mC, mNeg, mNext, mRet, mDrop, bind_ok, bind_err, res_ok, res_err, Res.fin, Out.ne, gNm, gTp, gsCons, gsNil, mIt, mRng1, mSl, oNone, oSome, kInt, add_int, len_tup, len_lst, tuple_lst, tuple_tup, mMk, mIn, mFlds, putD, mChk, mDo, mRaise, mApp, mAppPop, mSetIx, mLRg, mRg1, mTRg, mRg2, mPar2, sVal, sOwn, sNil, D.isFn, sizeLine_eq, eq_int, ne_int, wipeE, t1, t2, d3, ka, kb]
        · rw [m_indexesG (fun x hx => (items x hx).v) (by omega)]
          have z : (xs.take k.toNat ++ [d] ++ xs.drop (k + 1).toNat).all D.isI1 = false := by
            rw [List.all_append, List.all_append, List.all_cons, nr, Bool.false_and, Bool.and_false, Bool.false_and]
          rw [z, Bool.and_false]
      · have s3 := (ifS (a := (mSeq (mSet (mFn m__law_draw (aCons (mVal 0) (aCons (mCall kLen (aCons (mVal 1) aNil)) aNil))) (gNm 3))
    (mRet (mOp kAdd (mOp kAdd (mSl (mVal 1) oNone (oSome (mVal 3))) (mTup (aCons (mFn m__law_odd (aCons (mVal 0) aNil)) aNil))) (mSl (mVal 1) (oSome (mOp kAdd (mVal 3) (mC (.int 1)))) oNone))))) (b := mNext) (t0 2)).trans (if_neg (by rw [beq_iff_eq]; exact c2))
        obtain ⟨x, q', hx, e⟩ := m_pick q1 (.lst [.non, .int 3, .str "row", .bl true, .dct []]) _ rfl (.inl rfl) (by simp) (by simp)
        refine ⟨x, q', fin _ _ ?_, ?_⟩
        · unfold b__law_bent_row
          rw [seq_next s0, seq_next s1, seq_next s2, seq_next s3]
          exact ret_of ((fn2 rfl rfl).trans e)
        · simp only [List.mem_cons, List.not_mem_nil, or_false] at hx
          rcases hx with rfl | rfl | rfl | rfl | rfl
          · exact bent_no od_non rfl
          · exact bent_no (od_int (r := 3) (by decide)) rfl
          · exact bent_no (od_str (Sm.lit "row") (by decide +kernel)) rfl
          · exact bent_no (od_bl true) rfl
          · exact bent_no od_dct rfl
/-! #### told and due alike -/
theorem is_int (n : Nat) (a : Int) (q : Pen) : m__law_is (n + 1) [.int a, .int a] q = .ok (.bl true) q := by
  have h1 := isi_I (d := .int a) rfl
  have h2 := isi_B (d := .int a) rfl
  have h6 := isi_T (d := .int a) rfl
  have h3 : kIs (.int a) (.bl true) = some (.bl false) := rfl
  have h4 : kIs (.int a) (.bl false) = some (.bl false) := rfl
  have h5 : kIs (.int a) .non = some (.bl false) := rfl
  simp -implicitDefEqProofs [mDef, env0, env1, mDefI, mSeq, mSet, mSetO, mIfS, mTAnd, mTOr, mTNot, mT, mV, mIf, mOp, mChain, mCall, mFn, mFCall, mFr, mTup, mLst, aCons, aNil, mVal, mOwn, mC, mNeg, mNext, mRet, mDrop, bind_ok, bind_err, res_ok, res_err, Res.fin, Out.ne, gNm, gTp, gsCons, gsNil, mIt, mRng1, mSl, oNone, oSome, kInt, add_int, len_tup, len_lst, tuple_lst, tuple_tup, mMk, mIn, mFlds, putD, mChk, mDo, mRaise, mApp, mAppPop, mSetIx, mLRg, mRg1, mTRg, mRg2, mPar2, sVal, sOwn, sNil, D.isFn, sizeLine_eq, eq_int, ne_int, wipeE, m__law_is, b__law_is, isi_iS, h1, h2, h3, h4, h5, h6, D.isI, D.isB1]
theorem is_row {ns : List Int} (hl : ns.length ≤ 1000) (q : Pen) : m__law_is 8 [rowD ns, rowD ns] q = .ok (.bl true) q := by
  have h6 : kIsi objL exL ask [rowD ns, .ty "tuple"] = some (.bl true) := isi_T (d := rowD ns) rfl
  have lt : kLen [rowD ns] = some (.int ns.length) := by simp [rowD, kLen]
  have c : mComp (mRng1 (mCall kLen (aCons (mVal 1) aNil))) [2] (gNm 2) (mTNot (mT (mFn (m__law_is 7) (aCons (mOp kIx (mVal 0) (mVal 2)) (aCons (mOp kIx (mVal 1) (mVal 2)) aNil))))) (mVal 2) [.val (rowD ns), .val (rowD ns), .un] q = .ok (((rgI ns.length).filter fun _ => false).map D.int) q := by
    refine comp_of D.int (fun _ => false) D.int (rng1_int (n := ns.length) (call_of (acc rfl ac0) lt) (by omega) (by omega)) (by rw [rgI_len, sizeLine_eq]; omega) fun x hx => ⟨_, rfl, ?_, fun h => by cases h⟩
    have hx2 := rgI_mem.mp hx
    have k := at_ns (ns := ns) hx2.1 hx2.2 (d := rowD ns) (.inr rfl)
    exact not_of (t_of ((fn2 (op_of rfl rfl k) (op_of rfl rfl k)).trans (is_int 6 _ q)))
  rw [show ((rgI ns.length).filter fun _ => false) = [] by simp] at c
  rw [List.map_nil] at c
  have t0 : mT (mCall (kIsi objL exL ask) (aCons (mVal 1) (aCons (mC (.ty "tuple")) aNil))) [.val (rowD ns), .val (rowD ns), .un] q = .ok true q := t_of (call_of (acc rfl (acc rfl ac0)) h6)
  have t1 : mTNot (mT (mCall (kIsi objL exL ask) (aCons (mVal 0) (aCons (mC (.ty "tuple")) aNil)))) [.val (rowD ns), .val (rowD ns), .un] q = .ok false q := not_of (t_of (call_of (acc rfl (acc rfl ac0)) h6))
  have t2 : mT (mOp kNe (mCall kLen (aCons (mVal 0) aNil)) (mCall kLen (aCons (mVal 1) aNil))) [.val (rowD ns), .val (rowD ns), .un] q = .ok false q := t_of (op_of (call_of (acc rfl ac0) lt) (call_of (acc rfl ac0) lt) (by rw [ne_int]; simp))
  show (b__law_is (m__law_is 7) [.val (rowD ns), .val (rowD ns), .un] q).fin = _
  generalize m__law_is 7 = r at c
  unfold b__law_is
  rw [seq_ret ((if_t t0).trans ((seq_next (if_skip (or_ff t1 t2))).trans (ret_of (op_of (fr_of c) (fr_of rfl) (eqE_nil []))))) ]
  rfl
theorem m_either (ns : List Int) (q : Pen) : ∃ d q', m__law_either [.pen, rowD ns] q = .ok d q' ∧ (d = .lst (ns.map D.int) ∨ d = .tup (ns.map D.int)) := by
  obtain ⟨r, q1, d1, r0, r1⟩ := m_draw q 2 (by decide) (by decide)
  have t : mT (mOp kEq (mFn m__law_draw (aCons (mVal 0) (aCons (mC (.int 2)) aNil))) (mC (.int 0))) [.val .pen, .val (rowD ns)] q = .ok (r == 0) q1 := t_of (op_of ((fn2 rfl rfl).trans d1) rfl (eq_int _ _))
  cases c : r == 0 with
  | true =>
    rw [c] at t
    refine ⟨.lst (ns.map D.int), q1, ?_, .inl rfl⟩
    show (b__law_either [.val .pen, .val (rowD ns)] q).fin = _
    unfold b__law_either
    rw [ret_of ((ife_t t).trans (fr_of (fcall_of (es := ns.map D.int) (acc rfl ac0) rfl)))]
    rfl
  | false =>
    rw [c] at t
    refine ⟨rowD ns, q1, ?_, .inr rfl⟩
    show (b__law_either [.val .pen, .val (rowD ns)] q).fin = _
    unfold b__law_either
    rw [ret_of ((ife_f t).trans rfl)]
    rfl
theorem m_chips {m s : Int} (m0 : 0 ≤ m) (m1 : m ≤ 1000) (s0 : 0 ≤ s) (hg : gDiv (2 * s + 1) = true) (q : Pen) : ∃ ns q', m__law_chips [.pen, .int m, .int s] q = .ok (rowD ns) q' ∧ ns.length = m.toNat ∧ ∀ x ∈ ns, -s ≤ x ∧ x ≤ s := by
  have km : kMul (.int 2) (.int s) = some (.int (2 * s)) := small_mul (.inl (by decide))
  obtain ⟨ns, q', hc, hl, hp, _⟩ := comp_rel (it := mRng1 (mVal 1)) (vs := [3]) (g := gNm 3) (te := mOp kSub (mFn m__law_draw (aCons (mVal 0) (aCons (mOp kAdd (mOp kMul (mC (.int 2)) (mVal 2)) (mC (.int 1))) aNil))) (mVal 2)) (env := [.val .pen, .val (.int m), .val (.int s), .un]) (q := q) (q1 := q) D.int (fun _ x => -s ≤ x ∧ x ≤ s) (rng1_int (n := m) rfl m0 (by omega)) (by rw [List.length_map, rgI_len, sizeLine_eq]; omega) fun d hd q => by
    obtain ⟨r, q2, d2, r0, r1⟩ := m_drawG q (2 * s + 1) (by omega) hg
    exact ⟨_, rfl, r - s, q2, op_of ((fn2 rfl (op_of (op_of rfl rfl km) rfl rfl)).trans d2) rfl rfl, by omega, by omega⟩
  rw [List.length_map, rgI_len] at hl
  refine ⟨ns, q', ?_, hl, fun x hx => ?_⟩
  · show (b__law_chips [.val .pen, .val (.int m), .val (.int s), .un] q).fin = _
    unfold b__law_chips
    rw [ret_of (call_of (acc (fr_of hc) ac0) (tuple_lst _))]
    rfl
  · obtain ⟨d, _, h⟩ := hp x hx
    exact h
end Lw
end Pu
end

section
set_option maxHeartbeats 4000000
namespace Pu
namespace Lw
open PySem PySem.Spec PyProof.Rows L2
theorem row_shaped (ns : List Int) : SeqAt.shaped (rowD ns).py = true := by
  unfold SeqAt.shaped rowD
  simp only [D.py, PyData.canLay0, PyData.depth]
  rw [ints_lay ns, Bool.true_and, decide_eq_true_eq, ints_dep ns]
  decide
theorem sum_row (ns : List Int) : kSumA [rowD ns] = some (.int ns.sum) := by
  show (match intsD (ns.map D.int) with | some ns => some (D.int ns.sum) | none => none) = _
  rw [intsD_map]
theorem lst_of {r : AM} {env : Env} {q q1 : Pen} {ds : List D} (h : r env q = .ok ds q1) (hl : ds.length ≤ 1000) : mLst r env q = .ok ds q1 := by
  unfold mLst
  rw [h, bind_ok, if_pos (by rw [sizeLine_eq]; omega)]
theorem mul_row {s m : Int} (m1 : 1 ≤ m) (m2 : m ≤ 1000) : kMul (.tup [.int s]) (.int m) = some (rowD (List.replicate m.toNat s)) := by
  show (if m = 1 then some (D.tup [D.int s]) else if [D.int s] ≠ [] ∧ 2 ≤ m ∧ m ≤ 1000 ∧ [D.int s].length ≤ 1000 then some (.tup (List.replicate m.toNat [D.int s]).flatten) else none) = _
  by_cases h : m = 1
  · subst h
    rfl
  · rw [if_neg h, if_pos ⟨by simp, by omega, m2, by simp⟩, List.flatten_replicate_singleton, rowD, List.map_replicate]
theorem in_pr (v : Int) (p : Int × Int) : kIn (.int v) (prD p) = some (.bl (inT v p)) := by
  obtain ⟨a, b⟩ := p
  show (if (D.int v).flat = true ∧ ([D.int a, D.int b]).all D.flat = true then some (D.bl ([D.int a, D.int b].any fun y => PyData.eqv y.py (D.int v).py)) else none) = _
  rw [if_pos ⟨rfl, rfl⟩]
  show some (D.bl (a == v || (b == v || false))) = some (D.bl (v == a || v == b))
  rw [Bool.or_false, BEq.comm (a := a), BEq.comm (a := b)]
theorem zip_rows (r s : List Int) : zipD (r.map D.int) (s.map D.int) = (r.zip s).map prD := by
  unfold zipD
  rw [List.zip_map, List.map_map]
  rfl
theorem addR_zip : ∀ r s : List Int, ((r.zip s).map fun p => D.int (p.1 + p.2)) = (addR r s).map D.int
  | [], _ => rfl
  | _ :: _, [] => rfl
  | a :: r, b :: s => by
    show D.int (a + b) :: ((r.zip s).map fun p => D.int (p.1 + p.2)) = D.int (a + b) :: (addR r s).map D.int
    rw [addR_zip r s]
theorem mzip_tup {a b : EM} {env : Env} {q q1 q2 : Pen} {r s : List Int} (h : a env q = .ok (rowD r) q1) (h2 : b env q1 = .ok (rowD s) q2) : mZip (aCons a (aCons b aNil)) env q = .ok ((r.zip s).map prD) q2 := by
  unfold mZip
  rw [acc h (acc h2 ac0), bind_ok]
  show (Out.ok (zipD (r.map D.int) (s.map D.int)) q2) = _
  rw [zip_rows]
theorem shaped_bad {w : Str} {d : D} (hw : Sm w) (r : Rp d) : SeqAt.shaped (D.tup [.str "row", .str w, .str d.pr.shown]).py = true := shaped_strs3 (Sm.lit _) hw r.sm
theorem m_right (q : Pen) : ∃ q', m__law_right [.pen] q = .ok (.bl true) q' := by
  obtain ⟨m, ts, q1, d1, j, m6, tl⟩ := m_chip_web q
  have m1 := j.w.m1
  have ht := j.w.t
  obtain ⟨x, q2, hx, d2⟩ := m_pick q1 (.lst [.int 3, .int 9, .int (10 ^ 30)]) _ rfl (.inl rfl) (by simp) (by simp)
  have hs : ∃ s : Int, x = .int s ∧ 0 ≤ s ∧ s ≤ 10 ^ 30 ∧ gDiv (2 * s + 1) = true := by
    simp only [List.mem_cons, List.not_mem_nil, or_false] at hx
    rcases hx with rfl | rfl | rfl
    · exact ⟨3, rfl, by decide +kernel, by decide +kernel, by decide +kernel⟩
    · exact ⟨9, rfl, by decide +kernel, by decide +kernel, by decide +kernel⟩
    · exact ⟨10 ^ 30, rfl, by decide +kernel, by decide +kernel, by decide +kernel⟩
  obtain ⟨s, rfl, s0, s1, hg⟩ := hs
  obtain ⟨cs, q3, d3, lc, bc⟩ := m_chips (m := m) (by omega) (by omega) s0 hg q2
  obtain ⟨rs, q4, d4, lr, br⟩ := m_chips (m := m) (by omega) (by omega) s0 hg q3
  obtain ⟨es, q5, d5, le, be⟩ := m_chips (m := m) (s := 5) (by omega) (by omega) (by decide) (by decide +kernel) q4
  have big : (10 : Int) ^ 30 < 10 ^ 45 := by decide +kernel
  have zz : ∀ x : Int, -s ≤ x ∧ x ≤ s → x.natAbs < 10 ^ 45 := fun x hx => by
    have e : ((10 ^ 45 : Nat) : Int) = 10 ^ 45 := by decide +kernel
    generalize (10 : Int) ^ 45 = u at big e
    generalize (10 : Nat) ^ 45 = w at e ⊢
    generalize (10 : Int) ^ 30 = v at big s1
    omega
  have zc : Sz cs := fun x hx => zz x (bc x hx)
  have zr : Sz rs := fun x hx => zz x (br x hx)
  clear zz big bc br be
  obtain ⟨c2, q6, d6, gc⟩ := m_either cs q5
  obtain ⟨r2, q7, d7, gr⟩ := m_either rs q6
  obtain ⟨bad, q8, d8, b8⟩ := m_bent zc lc m1 (by omega) q7
  obtain ⟨wrong, q9, d9, b9⟩ := m_bent zr lr m1 (by omega) q8
  have m8 : m ≤ 8 := by omega
  have fl : ∀ c r : List Int, c.length = m.toNat → (fire ts c r).length = m.toNat := fun c r h => by rw [fire_len, h]
  have gd : ∀ {c : List Int}, c.length = m.toNat → Gd m (rowD c) c := fun h => ⟨.inr rfl, h⟩
  have f1 := m_fired_ok j m8 ⟨gc, lc⟩ ⟨gr, lr⟩ q7
  have f2 := m_fired_ok j m8 (gd (fl cs rs lc)) (gd le) q7
  have f3 := m_fired_ok j m8 (gd lc) (gd (addR_len lr le)) q7
  have f4 := m_fired_ok j m8 (gd lc) (gd (c := List.replicate m.toNat s) List.length_replicate) q7
  rw [fire_fire ht lc lr le] at f2
  rw [fire_const s ht lc] at f4
  have cl : (canon m ts).length = m.toNat := by rw [canon, List.length_map, degs_len, List.length_replicate]
  have cn := m_canonical_ok j m8 q7
  have csum : (canon m ts).sum = 2 * ((ts.length : Int) - m + 1) - 2 := by
    rw [canon, sum_sub2, degs_sum (m := m) ts ht List.length_replicate, degs_len, List.length_replicate, sum_rep0]
    omega
  have x1 := fired_bad1 (r := wrong) j m8 b8.i q9
  have x2 := fired_bad2 j m8 (gd lc) b9.i q9
  refine ⟨q9, ?_⟩
  show (b__law_right [.val .pen, .un, .un, .un, .un, .un, .un, .un, .un, .un, .un, .un, .un, .un, .un, .un, .un] q).fin = _
  have body : b__law_right [.val .pen, .un, .un, .un, .un, .un, .un, .un, .un, .un, .un, .un, .un, .un, .un, .un, .un] q = .ret (.bl true) q9 := by
    unfold b__law_right
    refine (seq_next (e2 := [.val .pen, .val (.int m), .val (prsD ts), .un, .un, .un, .un, .un, .un, .un, .un, .un, .un, .un, .un, .un, .un]) (q2 := q1) ?_).trans ?_
    · exact set_of ((fn3 rfl rfl rfl).trans d1) rfl
    refine (seq_next (e2 := [.val .pen, .val (.int m), .val (prsD ts), .val (webD m ts), .val (.int s), .un, .un, .un, .un, .un, .un, .un, .un, .un, .un, .un, .un]) (q2 := q2) ?_).trans ?_
    · exact set_of (tup_of (acc (mk_web j.w (acc rfl (acc rfl ac0))) (acc ((fn2 rfl (fr_of (lst_of (acc rfl (acc rfl (acc (op_of rfl rfl (pow10 30 (by decide))) ac0))) (by simp)))).trans d2) ac0)) (by simp)) rfl
    refine (seq_next (e2 := [.val .pen, .val (.int m), .val (prsD ts), .val (webD m ts), .val (.int s), .val (rowD cs), .val (rowD rs), .val (rowD es), .un, .un, .un, .un, .un, .un, .un, .un, .un]) (q2 := q5) ?_).trans ?_
    · exact set_of (tup_of (acc ((fn3 rfl rfl rfl).trans d3) (acc ((fn3 rfl rfl rfl).trans d4) (acc ((fn3 rfl rfl rfl).trans d5) ac0))) (by simp)) rfl
    refine (seq_next (e2 := [.val .pen, .val (.int m), .val (prsD ts), .val (webD m ts), .val (.int s), .val (rowD cs), .val (rowD rs), .val (rowD es), .val (rowD (fire ts cs rs)), .un, .un, .un, .un, .un, .un, .un, .un]) (q2 := q5) ?_).trans ?_
    · exact set_of ((fn_of' (acc rfl (acc rfl (acc rfl (acc rfl ac0))))).trans (m_fire lc lr (by omega) ht q5)) rfl
    refine (seq_next (e2 := [.val .pen, .val (.int m), .val (prsD ts), .val (webD m ts), .val (.int s), .val (rowD cs), .val (rowD rs), .val (rowD es), .val (rowD (fire ts cs rs)), .un, .un, .un, .un, .un, .un, .un, .un]) (q2 := q7) ?_).trans ?_
    · exact if_skip (or_ff (not_of (t_of ((fn2 ((fn3 rfl ((fn2 rfl rfl).trans d6) ((fn2 rfl rfl).trans d7)).trans f1) rfl).trans (is_row (by rw [fl cs rs lc]; omega) q7)))) (t_of (op_of (call_of (acc rfl ac0) (sum_row _)) (call_of (acc rfl ac0) (sum_row _)) (by rw [ne_int, fire_sum ts ht lc]; simp))))
    refine (seq_next (e2 := [.val .pen, .val (.int m), .val (prsD ts), .val (webD m ts), .val (.int s), .val (rowD cs), .val (rowD rs), .val (rowD es), .val (rowD (fire ts cs rs)), .un, .un, .un, .un, .un, .un, .un, .un]) (q2 := q7) ?_).trans ?_
    · have hz : mComp (mZip (aCons (mVal 6) (aCons (mVal 7) aNil))) [9, 10] (gTp (gsCons (gNm 9) (gsCons (gNm 10) gsNil))) tmYes (mOp kAdd (mVal 9) (mVal 10)) [.val .pen, .val (.int m), .val (prsD ts), .val (webD m ts), .val (.int s), .val (rowD cs), .val (rowD rs), .val (rowD es), .val (rowD (fire ts cs rs)), .un, .un, .un, .un, .un, .un, .un, .un] q7 = .ok ((addR rs es).map D.int) q7 := by
        have z := comp_ofM (te := mOp kAdd (mVal 9) (mVal 10)) (env := [.val .pen, .val (.int m), .val (prsD ts), .val (webD m ts), .val (.int s), .val (rowD cs), .val (rowD rs), .val (rowD es), .val (rowD (fire ts cs rs)), .un, .un, .un, .un, .un, .un, .un, .un]) (q := q7) (vs := [9, 10]) (g := gTp (gsCons (gNm 9) (gsCons (gNm 10) gsNil))) prD (fun p => .int (p.1 + p.2)) (mzip_tup (a := mVal 6) (b := mVal 7) rfl rfl) (by rw [List.length_zip, sizeLine_eq]; omega) fun p hp => ⟨_, rfl, rfl⟩
        rw [addR_zip] at z
        exact z
      exact if_skip (or_ff (t_of (op_of ((fn3 rfl rfl rfl).trans f2) ((fn3 rfl rfl (call_of (acc (fr_of hz) ac0) (tuple_lst _))).trans f3) (ne_refl (row_shaped _)))) (t_of (op_of ((fn3 rfl rfl (op_of (tup_of (acc rfl ac0) (by simp)) rfl (mul_row m1 (by omega)))).trans f4) rfl (ne_refl (row_shaped _)))))
    refine (seq_next (e2 := [.val .pen, .val (.int m), .val (prsD ts), .val (webD m ts), .val (.int s), .val (rowD cs), .val (rowD rs), .val (rowD es), .val (rowD (fire ts cs rs)), .un, .un, .own ((degs ts (List.replicate m.toNat 0)).map D.int), .un, .un, .un, .un, .un]) (q2 := q7) ?_).trans ?_
    · have hc := comp_ofM (it := mRng1 (mVal 1)) (te := mCall kLen (aCons (mFr (mComp (mIt (mVal 2)) [12] (gNm 12) (mT (mOp kIn (mVal 13) (mVal 12))) (mVal 12))) aNil)) (env := [.val .pen, .val (.int m), .val (prsD ts), .val (webD m ts), .val (.int s), .val (rowD cs), .val (rowD rs), .val (rowD es), .val (rowD (fire ts cs rs)), .un, .un, .un, .un, .un, .un, .un, .un]) (q := q7) (vs := [13]) (g := gNm 13) D.int (fun v => .int ((ts.filter (inT v)).length : Int)) (rng1_int (n := m) rfl (by omega) (by omega)) (by rw [rgI_len, sizeLine_eq]; omega) fun v hv => ⟨_, rfl, by
        refine call_of (acc (fr_of (comp_of prD (inT v) prD (mit_tup rfl) (by rw [sizeLine_eq]; omega) fun p hp => ⟨_, rfl, t_of (op_of rfl rfl (in_pr v p)), fun _ => rfl⟩)) ac0) ?_
        rw [len_lst, List.length_map]⟩
      have e := counts_eq ht
      have e2 : ((rgI m.toNat).map fun v => D.int ((ts.filter (inT v)).length : Int)) = (degs ts (List.replicate m.toNat 0)).map D.int := by
        rw [← e, List.map_map]
        rfl
      rw [e2] at hc
      exact seto_of hc
    refine (seq_next (e2 := [.val .pen, .val (.int m), .val (prsD ts), .val (webD m ts), .val (.int s), .val (rowD cs), .val (rowD rs), .val (rowD es), .val (rowD (fire ts cs rs)), .un, .un, .own ((degs ts (List.replicate m.toNat 0)).map D.int), .un, .un, .un, .un, .un]) (q2 := q7) ?_).trans ?_
    · have hc : mComp (mIt (mOwn 11)) [14] (gNm 14) tmYes (mOp kSub (mVal 14) (mC (.int 2))) [.val .pen, .val (.int m), .val (prsD ts), .val (webD m ts), .val (.int s), .val (rowD cs), .val (rowD rs), .val (rowD es), .val (rowD (fire ts cs rs)), .un, .un, .own ((degs ts (List.replicate m.toNat 0)).map D.int), .un, .un, .un, .un, .un] q7 = .ok ((canon m ts).map D.int) q7 := by
        have z := comp_ofM (it := mIt (mOwn 11)) (te := mOp kSub (mVal 14) (mC (.int 2))) (env := [.val .pen, .val (.int m), .val (prsD ts), .val (webD m ts), .val (.int s), .val (rowD cs), .val (rowD rs), .val (rowD es), .val (rowD (fire ts cs rs)), .un, .un, .own ((degs ts (List.replicate m.toNat 0)).map D.int), .un, .un, .un, .un, .un]) (q := q7) (vs := [14]) (g := gNm 14) D.int (fun x => .int (x - 2)) (mit_lst rfl) (by rw [degs_len, List.length_replicate, sizeLine_eq]; omega) fun x hx => ⟨_, rfl, rfl⟩
        rw [z, canon, List.map_map]
        rfl
      exact if_skip (or_ff (not_of (t_of ((fn2 ((fn1 rfl).trans cn) (call_of (acc (fr_of hc) ac0) (tuple_lst _))).trans (is_row (by omega) q7)))) (t_of (op_of (call_of (acc ((fn1 rfl).trans cn) ac0) (sum_row _)) (op_of (op_of rfl (op_of (op_of (call_of (acc rfl ac0) (len_prs _)) rfl rfl) rfl rfl) (small_mul (.inl (by decide)))) rfl rfl) (by rw [ne_int, csum]; simp))))
    refine (seq_next (e2 := [.val .pen, .val (.int m), .val (prsD ts), .val (webD m ts), .val (.int s), .val (rowD cs), .val (rowD rs), .val (rowD es), .val (rowD (fire ts cs rs)), .un, .un, .own ((degs ts (List.replicate m.toNat 0)).map D.int), .un, .un, .un, .val bad, .val wrong]) (q2 := q9) ?_).trans ?_
    · exact set_of (tup_of (acc ((fn2 rfl rfl).trans d8) (acc ((fn2 rfl rfl).trans d9) ac0)) (by simp)) rfl
    refine (seq_next (e2 := [.val .pen, .val (.int m), .val (prsD ts), .val (webD m ts), .val (.int s), .val (rowD cs), .val (rowD rs), .val (rowD es), .val (rowD (fire ts cs rs)), .un, .un, .own ((degs ts (List.replicate m.toNat 0)).map D.int), .un, .un, .un, .val bad, .val wrong]) (q2 := q9) ?_).trans ?_
    · exact if_skip (t_of (op_of (fault_BadRow (.str "chips") bad _ b8.r.rep rfl rfl b8.r.noX b8.r.noC ((fn3 rfl rfl rfl).trans x1)) (tup_of (acc rfl (acc rfl (acc (call_of (acc rfl ac0) b8.r.rep) ac0))) (by simp)) (ne_refl (shaped_bad (Sm.lit _) b8.r))))
    exact ret_of (op_of (fault_BadRow (.str "row") wrong _ b9.r.rep rfl rfl b9.r.noX b9.r.noC ((fn3 rfl rfl rfl).trans x2)) (tup_of (acc rfl (acc rfl (acc (call_of (acc rfl ac0) b9.r.rep) ac0))) (by simp)) (eq_refl (shaped_bad (Sm.lit _) b9.r)))
  rw [body]
  rfl
end Lw
end Pu
end

section
set_option maxHeartbeats 4000000
namespace Pu
namespace Lw
open PySem PySem.Spec PyProof.Rows L2
def chain9 : List (Int × Int) := (rgI 8).map fun k => (k, k + 1)
theorem ok3 : OkW 3 [(0, 1)] := ⟨by decide, by decide, (fun p hp => by rw [List.mem_singleton.mp hp]; exact ⟨by decide, by decide, by decide⟩), by decide⟩
theorem ok9 : Jn 9 chain9 := ⟨⟨by decide, by decide, fun p hp => by
    obtain ⟨k, hk, rfl⟩ := List.mem_map.mp hp
    have := rgI_mem.mp hk
    exact ⟨by show 0 ≤ k; omega, by show k < k + 1; omega, by show k + 1 < 9; omega⟩, by decide⟩, fun v v0 v1 => ⟨v - 1, by omega, by omega, List.mem_map.mpr ⟨v - 1, rgI_mem.mpr (by omega), by rw [Int.sub_add_cancel]⟩⟩⟩
theorem lam0_of {w : D} {q : Pen} {r : Out D} (h : m_fired [w, .non, .non] q = r) : m_lam0 [w] q = r := by
  show b_lam0 [.val w] q = _
  exact (fn3 rfl rfl rfl).trans h
theorem callW_fn {w : D} {i : Nat} {env : Env} {q : Pen} {r : Out D} (h3 : env[3]? = some (.val (.fn "canonical"))) (hi : mVal i env q = .ok w q) (h : m_canonical [w] q = r) : mCallW 3 [("canonical", m_canonical)] [("_law_refused#0", m_lam0)] (aCons (mVal i) aNil) env q = r := by
  unfold mCallW
  rw [h3]
  exact (fn1 hi).trans h
theorem callW_lam {w : D} {i : Nat} {env : Env} {q : Pen} {r : Out D} (h3 : env[3]? = some (.val (.lam "_law_refused#0"))) (hi : mVal i env q = .ok w q) (h : m_lam0 [w] q = r) : mCallW 3 [("canonical", m_canonical)] [("_law_refused#0", m_lam0)] (aCons (mVal i) aNil) env q = r := by
  unfold mCallW
  rw [h3]
  exact (fn1 hi).trans h
abbrev errU : Err := ⟨"Unlike", [("what", .str "web")]⟩
abbrev errM : Err := ⟨"TooMany", [("limit", .int 8), ("many", .int 9), ("what", .str "nodes")]⟩
theorem refuse_step {d : D} {s2 : Slot} {q : Pen} (hU : mCallW 3 [("canonical", m_canonical)] [("_law_refused#0", m_lam0)] (aCons (mVal 0) aNil) (frzE [.val (webD 3 [(0, 1)]), .val (webD 9 chain9), s2, .val d]) q = .err errU q)
    (hM : mCallW 3 [("canonical", m_canonical)] [("_law_refused#0", m_lam0)] (aCons (mVal 1) aNil) (frzE [.val (webD 3 [(0, 1)]), .val (webD 9 chain9), s2, .val d]) q = .err errM q) :
    (mSeq (mIfS (mT (mOp kNe (mLam 3 b__law_fault (mCallW 3 [("canonical", m_canonical)] [("_law_refused#0", m_lam0)] (aCons (mVal 0) aNil))) (mTup (aCons (mC (.str "unlike")) (aCons (mC (.str "web")) aNil))))) (mRet (mC (.bl false))) mNext)
    (mIfS (mT (mOp kNe (mLam 3 b__law_fault (mCallW 3 [("canonical", m_canonical)] [("_law_refused#0", m_lam0)] (aCons (mVal 1) aNil))) (mTup (aCons (mC (.str "many")) (aCons (mC (.str "nodes")) (aCons (mC (.int 9)) (aCons (mC (.int 8)) aNil))))))) (mRet (mC (.bl false))) mNext)) [.val (webD 3 [(0, 1)]), .val (webD 9 chain9), s2, .val d] q = .next [.val (webD 3 [(0, 1)]), .val (webD 9 chain9), s2, .val d] q := by
  have f1 := fault_Unlike (.str "web") rfl rfl hU
  have f2 := fault_TooMany (.str "nodes") (.int 9) (.int 8) rfl rfl rfl rfl rfl rfl hM
  refine (seq_next (if_skip (t_of (op_of f1 (tup_of (acc rfl (acc rfl ac0)) (by simp)) (ne_refl (by decide +kernel)))))).trans ?_
  exact if_skip (t_of (op_of f2 (tup_of (acc rfl (acc rfl (acc rfl (acc rfl ac0)))) (by simp)) (ne_refl (by decide +kernel))))
theorem m_refused (q : Pen) : m__law_refused [] q = .ok (.bl true) q := by
  have c9 : mComp (mRng1 (mC (.int 8))) [2] (gNm 2) tmYes (mTup (aCons (mVal 2) (aCons (mOp kAdd (mVal 2) (mC (.int 1))) aNil))) [.un, .un, .un, .un] q = .ok (chain9.map prD) q := by
    have z := comp_ofM (it := mRng1 (mC (.int 8))) (te := mTup (aCons (mVal 2) (aCons (mOp kAdd (mVal 2) (mC (.int 1))) aNil))) (env := [.un, .un, .un, .un]) (q := q) (vs := [2]) (g := gNm 2) D.int (fun k => prD (k, k + 1)) (rng1_int (n := 8) rfl (by decide) (by decide)) (by rw [rgI_len, sizeLine_eq]; decide) fun k hk => ⟨_, rfl, tup_of (acc rfl (acc (op_of rfl rfl rfl) ac0)) (by simp)⟩
    rw [z, chain9, List.map_map]
    rfl
  show (b__law_refused [.un, .un, .un, .un] q).fin = _
  have body : b__law_refused [.un, .un, .un, .un] q = .ret (.bl true) q := by
    unfold b__law_refused
    refine (seq_next (e2 := [.val (webD 3 [(0, 1)]), .val (webD 9 chain9), .un, .un]) (q2 := q) ?_).trans ?_
    · exact set_of (tup_of (acc (mk_web ok3 (acc rfl (acc rfl ac0))) (acc (mk_web ok9.w (acc rfl (acc (call_of (acc (fr_of c9) ac0) (tuple_lst _)) ac0))) ac0)) (by simp)) rfl
    have U1 := need_web_un q
    have M1 := need_web_many ok9 (by decide) q
    let I : Nat → Env → Pen → Prop := fun _ env q' => q' = q ∧ ∃ s3, env = [.val (webD 3 [(0, 1)]), .val (webD 9 chain9), .un, s3]
    obtain ⟨e2, q2, h1, h2⟩ := loop_inv (g := gNm 3) (b := (mSeq (mIfS (mT (mOp kNe (mLam 3 b__law_fault (mCallW 3 [("canonical", m_canonical)] [("_law_refused#0", m_lam0)] (aCons (mVal 0) aNil))) (mTup (aCons (mC (.str "unlike")) (aCons (mC (.str "web")) aNil))))) (mRet (mC (.bl false))) mNext)
    (mIfS (mT (mOp kNe (mLam 3 b__law_fault (mCallW 3 [("canonical", m_canonical)] [("_law_refused#0", m_lam0)] (aCons (mVal 1) aNil))) (mTup (aCons (mC (.str "many")) (aCons (mC (.str "nodes")) (aCons (mC (.int 9)) (aCons (mC (.int 8)) aNil))))))) (mRet (mC (.bl false))) mNext))) (fun d : D => d) I [.fn "canonical", .lam "_law_refused#0"] 0 [.val (webD 3 [(0, 1)]), .val (webD 9 chain9), .un, .un] q ⟨rfl, .un, rfl⟩ fun i hi env q' ⟨hq, s3, e⟩ => by
      subst e hq
      match i, hi with
      | 0, _ => exact ⟨_, rfl, [.val (webD 3 [(0, 1)]), .val (webD 9 chain9), .un, .val (.fn "canonical")], q', .inl (refuse_step (callW_fn rfl rfl (canonical_web U1)) (callW_fn rfl rfl (canonical_web M1))), rfl, _, rfl⟩
      | 1, _ => exact ⟨_, rfl, [.val (webD 3 [(0, 1)]), .val (webD 9 chain9), .un, .val (.lam "_law_refused#0")], q', .inl (refuse_step (callW_lam rfl rfl (lam0_of (fired_web U1))) (callW_lam rfl rfl (lam0_of (fired_web M1)))), rfl, _, rfl⟩
    obtain ⟨hq, s3, e⟩ := h2
    subst e hq
    rw [List.map_id'] at h1
    refine (seq_next ((for_of (mit_tup (tup_of (acc rfl (acc rfl ac0)) (by simp)))).trans h1)).trans ?_
    rfl
  rw [body]
  rfl
/-! #### the law -/
def ring3 : List (Int × Int) := [(0, 1), (1, 2), (0, 2)]
theorem okR3 : Jn 3 ring3 := ⟨⟨by decide, by decide, (by decide : ∀ p ∈ ring3, 0 ≤ p.1 ∧ p.1 < p.2 ∧ p.2 < 3), by decide⟩, fun v v0 v1 => ⟨0, by omega, v0, by
    have : v = 1 ∨ v = 2 := by omega
    rcases this with rfl | rfl <;> decide⟩⟩
theorem ok1 : Jn 1 [] := ⟨⟨by decide, by decide, (fun p hp => by cases hp), by decide⟩, fun v v0 v1 => by omega⟩
theorem ring_fire : fire ring3 [2, 0, 0] [1, 0, 0] = [0, 1, 1] := by decide
theorem one_canon : canon 1 [] = [-2] := by decide
theorem laps (q : Pen) : ∃ s q', mFor (mRng1 (mC (.int 5))) (gNm 2) (mIfS (mTNot (mT (mFn m__law_right (aCons (mVal 1) aNil)))) (mRet (mC (.bl false))) mNext) [.un, .val .pen, .un, .un] q = .next [.un, .val .pen, s, .un] q' := by
  let I : Nat → Env → Pen → Prop := fun _ env _ => ∃ s, env = [.un, .val .pen, s, .un]
  obtain ⟨e2, q2, h1, h2⟩ := loop_inv (g := gNm 2) (b := mIfS (mTNot (mT (mFn m__law_right (aCons (mVal 1) aNil)))) (mRet (mC (.bl false))) mNext) D.int I (rgI 5) 0 [.un, .val .pen, .un, .un] q ⟨.un, rfl⟩ fun i hi env q ⟨s, e⟩ => by
    subst e
    obtain ⟨q', r⟩ := m_right q
    exact ⟨_, rfl, _, q', .inl (if_skip (not_of (t_of ((fn1 rfl).trans r)))), _, rfl⟩
  obtain ⟨s, rfl⟩ := h2
  exact ⟨s, q2, (for_of (rng1_int (n := 5) rfl (by decide) (by decide))).trans h1⟩
theorem hm2 (ns : List Int) (h : okNs ns) : ∃ q, b2_law (envL nLaw ipLaw) (pen0 ns) = .ret (.bl true) q := by
  obtain ⟨z, q, hl⟩ := laps (pen0 ns)
  refine ⟨q, ?_⟩
  have e0 : envL nLaw ipLaw = [.un, .val .pen, .un, .un] := rfl
  rw [e0]
  have f1 := m_fired_ok (c := rowD [2, 0, 0]) (r := rowD [1, 0, 0]) okR3 (by decide) ⟨.inr rfl, rfl⟩ ⟨.inr rfl, rfl⟩ q
  rw [ring_fire] at f1
  have c1 := m_canonical_ok ok1 (by decide) q
  rw [one_canon] at c1
  unfold b2_law
  refine (seq_next hl).trans ?_
  refine (seq_next (e2 := [.un, .val .pen, z, .val (webD 3 ring3)]) (q2 := q) ?_).trans ?_
  · exact set_of (mk_web okR3.w (acc rfl (acc rfl ac0))) rfl
  refine ret_of (v_of ((and_t (t_of ((fn_of' ac0).trans (m_refused q)))).trans ((and_t (t_of ((fn2 ((fn3 rfl rfl rfl).trans f1) rfl).trans (is_row (by decide) q)))).trans (t_of ((fn2 ((fn1 (mk_web ok1.w (acc rfl (acc rfl ac0)))).trans c1) rfl).trans (is_row (by decide) q))))))
theorem hm1 (ns : List Int) (h : okNs ns) : b1_law (env0 nLaw [.scr ns]) emptyPen = .next ((env0 nLaw [.scr ns]).set ipLaw (.val (.dct (penDs (pen0 ns))))) emptyPen := by
  have e := m_pen ns h emptyPen
  show (mSet (mFn m__law_pen (aCons (mVal 0) aNil)) (gNm 1)) _ _ = _
  unfold mSet mFn
  have ea : aCons (mVal 0) aNil (env0 nLaw [.scr ns]) emptyPen = .ok [.scr ns] emptyPen := rfl
  rw [ea, bind_ok, e]
  rfl
end Lw
end Pu
end

set_option maxHeartbeats 0
namespace Pu
namespace Lw
open PySem PySem.Spec PyProof.Rows L2
theorem law_is (w : World) (mg : Str → Option Value) (fa' : Addr) (h : Heap) (Y : hk.says w h) (G : h.Ns mainGlobals mg) (hmg : mg ("law" : Str) = some (.ref fa')) : ∃ K : PySem.W.Frag, K.In h ∧ LawIs PySem.Challenge.rw_flowwebs_k73_whole_firing w K 13 63 "script" mg fa' h := by
  obtain ⟨⟨K, KX, c⟩, m⟩ := Y
  have f : FX K mg := ⟨⟨h, KX, G⟩, c.t.d, c.more⟩
  have e := hmg.symm.trans (f.glo 32)
  cases e
  obtain ⟨fd, hb, F⟩ := fn_law_ (C := ⟨K, mg, none, 0, ttT tfL K, none, none, ltL⟩) (P := (PySem.Challenge.rw_flowwebs_k73_whole_firing).prog) (wd := w) f rfl rfl hm1 hm2
  have tq := (exO_ok (C := ⟨K, mg, none, 0, ttT tfL K, none, none, ltL⟩) f).2.2.2.2.1
  have tfd : ∀ p ∈ tfL, p.1 ∈ tfD := by decide +kernel
  refine ⟨K, KX, ⟨true, fd, tfL.map fun p => He.cT K p.1, spLaw ⟨K, mg, none, 0, ttT tfL K, none, none, ltL⟩ okNs, (fun p hp => ?_), hb, (ex1 (C := ⟨K, mg, none, 0, ttT tfL K, none, none, ltL⟩) f).2.2.2.2.2.1, m, fun H a ns hM hl hbt hT hS hA => ⟨a, ns, rfl, hS, hA, ⟨hl, hbt⟩, ⟨fun p hp => ?_, hM, fun _ _ _ _ z => by cases z⟩, fun _ => rfl⟩, fun base _ _ hT => F base ⟨tt_of tq rfl rfl hT, rfl⟩⟩⟩
  · obtain ⟨r, hr, rfl⟩ := List.mem_map.mp hp
    exact ⟨c.empty _ (tfd r hr), c.out _ (tfd r hr), PySem.W.codeHd_of_K KX (c.hd _ (tfd r hr))⟩
  · obtain ⟨r, hr, rfl⟩ := List.mem_map.mp hp
    exact LamX.TabS.nil (hT _ (List.mem_map.mpr ⟨r, hr, rfl⟩))
end Lw
end Pu
open PySem PySem.W PySem.Calls PyProof.Rows
theorem PySem.Challenge.cw_flowwebs_k73_whole_firing_holds : PySem.Challenge.rw_flowwebs_k73_whole_firing.Holds := by
  w_on; o_law
  refine HandSHeadRun.head_any (r := OpenLaw.row PySem.Challenge.rw_flowwebs_k73_whole_firing) (q := view (OpenLaw.row PySem.Challenge.rw_flowwebs_k73_whole_firing).prog [59]) (H := Pu.Lw.hk) (ob := Pu.Lw.ob) (M := 20000) (loose := Pu.Lw.nms) (d := HandSHeadRun.topDef (OpenLaw.row PySem.Challenge.rw_flowwebs_k73_whole_firing).prog 59) (kwd := []) Pu.Lw.ob_eq
    (by kernel_rfl) (fun s => by kernel_rfl) Pu.Lw.run (by kernel_rfl) (by kernel_rfl) (by kernel_rfl) (by rfl) (by first | assumption | decide +kernel) (by decide +kernel) ⟨rfl, rfl, rfl, rfl, rfl, by decide +kernel⟩ ?hw ?hc
  case hw => w_witness2
  case hc =>
    refine Pu.law_walk (l := PySem.Challenge.rw_flowwebs_k73_whole_firing) (n := 63) (k := 13) (x := "script") rfl (by decide) (by kernel_rfl) ⟨rfl, by decide, by decide⟩ ?F
    intro w mg fa h Y G hmg0
    have hmg : mg ("law" : PySem.Str) = some (.ref fa) := by
      have e : (HandSHeadRun.topDef (OpenLaw.row PySem.Challenge.rw_flowwebs_k73_whole_firing).prog 59).name = ("law" : PySem.Str) := by kernel_rfl
      rw [← e]
      exact hmg0
    exact Pu.Lw.law_is w mg fa h Y G hmg
