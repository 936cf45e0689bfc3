import PyProof.Rows.All
import Wide.All
import OpenK.AllK
import Wide.FinOn
import HandS.Walk
import HandS.ForExc
import HandS.Comp
import HandS.Iter
import HandS.Zip
import HandS.IsInst
import HandS.TupAny
import HandS.TupMul
import HandS.Wide
import HandS.Gcd
import HandS.Flow
import HandS.Style
import HandS.Conv
import HandS.Deep
import HandS.Dict
import HandS.Lambda
import HandS.EndTab
import HandS.HotCalls
import HandS.ExcInit
import HandS.ExcIs
import HandS.ExcField
import HandS.Defaults
import HandS.HeadHook4
import HandS.HeadWalk
import HandS.Head0
import HandS.Head1
import HandS.Head2
import KE.KExcIs
import HandS.More
import HandS.OwnEq
import HandS.SortInts
import HandS.Zip0
import HandS.HeadEnd
import HandS.Head3
import KE.KRevSl
import KE.GoesMore
import PyProof.EnumMake
import PySem.Challenge.RW_flowwebs_k30_whole_fractions_of_lines
import KE.KStateDown
import PyProof.ReprBulk
import PyProof.FitsInt
set_option Elab.async false
set_option linter.all false
set_option maxRecDepth 100000
section
set_option maxHeartbeats 2000000
/-! Pure values over the hand layer: data D, how a heap bears it, readings by a pure mirror. -/
namespace Pu
open PySem PySem.Spec PyProof.Rows L2

abbrev St := L2.St
/-! ### data -/
inductive D where
  | non
  | bl (b : Bool)
  | int (i : Int)
  | str (x : Str)
  | tup (xs : List D)
  | lst (xs : List D)
  | dct (kvs : List (Key × D))
  | obj (c : Str) (fs : List (Str × D))
  | pen
  | fn (x : Str)
  | ty (n : String)
  | exc (c : Str) (fs : List (Str × D))
  | scr (ns : List Int)
  | clo
  | lam (x : Str)

def D.isFn : D → Bool
  | .fn _ => true
  | .exc _ _ => true
  | .scr _ => true
  | .clo => true
  | .lam _ => true
  | _ => false

/-- a lambda that captures nothing: its words -/
structure LamD where
  nm : Str
  ps : Arguments
  body : Expr
  sc : Scope
/-- the object at f is that lambda, its code object at cl -/
def FunO (f : Addr) (l : LamD) (cl : Addr) : HO := .ext fun h => ∃ (pm ct : Value), h.get? f = some (PySem.W.kla_obj "<lambda>" l.nm l.ps l.body l.sc [] pm cl ct)
/-- what the readings lean on: the written part, the module's names, where the pen stands, the tables of code objects -/
structure Ctx where
  K : PySem.W.Frag
  mg : Str → Option Value
  pa : Option Addr
  pl : Addr
  T : List (Addr × Str)
  ex : Option (Addr × Value × Option Addr)
  cl : Option (Addr × Addr × Str × Hp)
  lt : List (Str × LamD)

abbrev Sub (G G' : Hp) : Prop := ∀ a o, G a = some o → G' a = some o
theorem Sub.refl (G : Hp) : Sub G G := fun _ _ h => h
theorem Sub.trans {G G1 G2 : Hp} (a : Sub G G1) (b : Sub G1 G2) : Sub G G2 := fun c o h => b c o (a c o h)

mutual
inductive Rep (C : Ctx) (G : Hp) : V → D → Prop where
  | non : Rep C G .non .non
  | bl (b : Bool) : Rep C G (.bl b) (.bl b)
  | int (i : Int) : Rep C G (.int i) (.int i)
  | str (x : Str) : Rep C G (.str x) (.str x)
  | tup {a : Addr} {vs : List V} {ds : List D} (h : G a = some (.tup vs)) (r : Reps C G vs ds) : Rep C G (.ref a) (.tup ds)
  | lst {a : Addr} {vs : List V} {ds : List D} (h : G a = some (.lst vs)) (r : Reps C G vs ds) : Rep C G (.ref a) (.lst ds)
  | dct {a : Addr} {kvs : List (Key × V)} {ks : List (Key × D)} (h : G a = some (.dK kvs)) (r : RepK C G kvs ks) : Rep C G (.ref a) (.dct ks)
  | obj {a dx cA : Addr} {c : Str} {fvs : List (Str × V)} {fs : List (Str × D)} (m : C.mg c = some (.ref cA)) (h : G a = some (.ins cA dx fvs)) (r : RepF C G fvs fs) : Rep C G (.ref a) (.obj c fs)
  | pen {a : Addr} (h : C.pa = some a) : Rep C G (.ref a) .pen
  | fn {f : Addr} {x : Str} (h : C.mg x = some (.ref f)) : Rep C G (.ref f) (.fn x)
  | ty (n : String) : Rep C G (.ty n) (.ty n)
  | scr {a : Addr} {ns : List Int} (h : SqL C.K G a (ns.map V.int)) : Rep C G (.ref a) (.scr ns)
  | clo {f c' : Addr} {q : Str} {Gc : Hp} (h : C.cl = some (f, c', q, Gc)) (s : Sub Gc G) : Rep C G (.ref f) .clo
  | lam {f c' : Addr} {x : Str} {l : LamD} (h : C.lt.lookup x = some l) (g : G f = some (FunO f l c')) (c : G c' = some (LamX.CodeO c' l.nm)) : Rep C G (.ref f) (.lam x)
  | exc0 {a cA : Addr} {c : Str} (h : C.ex = some (a, .ref cA, none)) (m : C.mg c = some (.ref cA)) : Rep C G (.ref a) (.exc c [])
  | exc1 {a cA x : Addr} {c : Str} {fvs : List (Str × V)} {fs : List (Str × D)} (h : C.ex = some (a, .ref cA, some x)) (m : C.mg c = some (.ref cA)) (g : G x = some (.xd fvs)) (r : RepF C G fvs fs) : Rep C G (.ref a) (.exc c fs)
inductive Reps (C : Ctx) (G : Hp) : List V → List D → Prop where
  | nil : Reps C G [] []
  | cons {v : V} {d : D} {vs : List V} {ds : List D} (h : Rep C G v d) (t : Reps C G vs ds) : Reps C G (v :: vs) (d :: ds)
inductive RepK (C : Ctx) (G : Hp) : List (Key × V) → List (Key × D) → Prop where
  | nil : RepK C G [] []
  | cons {k : Key} {v : V} {d : D} {vs : List (Key × V)} {ds : List (Key × D)} (h : Rep C G v d) (t : RepK C G vs ds) : RepK C G ((k, v) :: vs) ((k, d) :: ds)
inductive RepF (C : Ctx) (G : Hp) : List (Str × V) → List (Str × D) → Prop where
  | nil : RepF C G [] []
  | cons {k : Str} {v : V} {d : D} {vs : List (Str × V)} {ds : List (Str × D)} (h : Rep C G v d) (t : RepF C G vs ds) : RepF C G ((k, v) :: vs) ((k, d) :: ds)
end

theorem SqL.mono {K : PySem.W.Frag} {G G' : Hp} (s : Sub G G') {a : Addr} {xs : List V} (h : SqL K G a xs) : SqL K G' a xs := by
  rcases h with (h | ⟨o, h⟩) | h
  · exact .inl (.inl (s _ _ h))
  · exact .inl (.inr ⟨o, s _ _ h⟩)
  · exact .inr h
mutual
theorem Rep.mono {C : Ctx} {G G' : Hp} (s : Sub G G') : ∀ {v : V} {d : D}, Rep C G v d → Rep C G' v d
  | _, _, .non => .non
  | _, _, .bl b => .bl b
  | _, _, .int i => .int i
  | _, _, .str x => .str x
  | _, _, .tup h r => .tup (s _ _ h) (Reps.mono s r)
  | _, _, .lst h r => .lst (s _ _ h) (Reps.mono s r)
  | _, _, .dct h r => .dct (s _ _ h) (RepK.mono s r)
  | _, _, .obj m h r => .obj m (s _ _ h) (RepF.mono s r)
  | _, _, .pen h => .pen h
  | _, _, .fn h => .fn h
  | _, _, .ty n => .ty n
  | _, _, .scr h => .scr (SqL.mono s h)
  | _, _, .clo h s0 => .clo h (s0.trans s)
  | _, _, .lam h g c => .lam h (s _ _ g) (s _ _ c)
  | _, _, .exc0 h m => .exc0 h m
  | _, _, .exc1 h m g r => .exc1 h m (s _ _ g) (RepF.mono s r)
theorem Reps.mono {C : Ctx} {G G' : Hp} (s : Sub G G') : ∀ {vs : List V} {ds : List D}, Reps C G vs ds → Reps C G' vs ds
  | _, _, .nil => .nil
  | _, _, .cons h t => .cons (Rep.mono s h) (Reps.mono s t)
theorem RepK.mono {C : Ctx} {G G' : Hp} (s : Sub G G') : ∀ {vs : List (Key × V)} {ds : List (Key × D)}, RepK C G vs ds → RepK C G' vs ds
  | _, _, .nil => .nil
  | _, _, .cons h t => .cons (Rep.mono s h) (RepK.mono s t)
theorem RepF.mono {C : Ctx} {G G' : Hp} (s : Sub G G') : ∀ {vs : List (Str × V)} {ds : List (Str × D)}, RepF C G vs ds → RepF C G' vs ds
  | _, _, .nil => .nil
  | _, _, .cons h t => .cons (Rep.mono s h) (RepF.mono s t)
end

/-! ### lists of what is borne -/
section
variable {C : Ctx} {G G' : Hp}
theorem Reps.length : ∀ {vs : List V} {ds : List D}, Reps C G vs ds → vs.length = ds.length
  | _, _, .nil => rfl
  | _, _, .cons _ t => by rw [List.length_cons, List.length_cons, Reps.length t]
theorem Reps.append : ∀ {vs ws : List V} {ds es : List D}, Reps C G vs ds → Reps C G ws es → Reps C G (vs ++ ws) (ds ++ es)
  | _, _, _, _, .nil, s => s
  | _, _, _, _, .cons h t, s => .cons h (Reps.append t s)
theorem Reps.one {v : V} {d : D} (h : Rep C G v d) : Reps C G [v] [d] := .cons h .nil
theorem Reps.getL : ∀ {vs : List V} {ds : List D} {i : Nat} {v : V}, Reps C G vs ds → vs[i]? = some v → ∃ d, ds[i]? = some d ∧ Rep C G v d
  | _, _, _, _, .nil, e => by simp at e
  | _, _, 0, _, .cons h _, e => by
    simp at e
    subst e
    exact ⟨_, rfl, h⟩
  | _, _, i + 1, v, .cons _ t, e => by
    obtain ⟨d, h1, h2⟩ := Reps.getL (i := i) (v := v) t (by simpa using e)
    exact ⟨d, by simpa using h1, h2⟩
theorem Reps.getR : ∀ {vs : List V} {ds : List D} {i : Nat} {d : D}, Reps C G vs ds → ds[i]? = some d → ∃ v, vs[i]? = some v ∧ Rep C G v d
  | _, _, _, _, .nil, e => by simp at e
  | _, _, 0, _, .cons h _, e => by
    simp at e
    subst e
    exact ⟨_, rfl, h⟩
  | _, _, i + 1, d, .cons _ t, e => by
    obtain ⟨v, h1, h2⟩ := Reps.getR (i := i) (d := d) t (by simpa using e)
    exact ⟨v, by simpa using h1, h2⟩
theorem Reps.take : ∀ (n : Nat) {vs : List V} {ds : List D}, Reps C G vs ds → Reps C G (vs.take n) (ds.take n)
  | 0, _, _, _ => .nil
  | _ + 1, _, _, .nil => .nil
  | n + 1, _, _, .cons h t => .cons h (Reps.take n t)
theorem Reps.drop : ∀ (n : Nat) {vs : List V} {ds : List D}, Reps C G vs ds → Reps C G (vs.drop n) (ds.drop n)
  | 0, _, _, h => h
  | _ + 1, _, _, .nil => .nil
  | n + 1, _, _, .cons _ t => Reps.drop n t
theorem Reps.set : ∀ (i : Nat) {vs : List V} {ds : List D} {v : V} {d : D}, Reps C G vs ds → Rep C G v d → Reps C G (vs.set i v) (ds.set i d)
  | _, _, _, _, _, .nil, _ => .nil
  | 0, _, _, _, _, .cons _ t, h => .cons h t
  | i + 1, _, _, _, _, .cons q t, h => .cons q (Reps.set i t h)
theorem Reps.eraseIdx : ∀ (i : Nat) {vs : List V} {ds : List D}, Reps C G vs ds → Reps C G (vs.eraseIdx i) (ds.eraseIdx i)
  | _, _, _, .nil => .nil
  | 0, _, _, .cons _ t => t
  | i + 1, _, _, .cons h t => .cons h (Reps.eraseIdx i t)
theorem Reps.dropLast : ∀ {vs : List V} {ds : List D}, Reps C G vs ds → Reps C G vs.dropLast ds.dropLast
  | _, _, .nil => .nil
  | _, _, .cons _ .nil => .nil
  | _, _, .cons h (.cons h2 t) => .cons h (Reps.dropLast (.cons h2 t))
theorem Reps.reverse : ∀ {vs : List V} {ds : List D}, Reps C G vs ds → Reps C G vs.reverse ds.reverse
  | _, _, .nil => .nil
  | _, _, .cons h t => by
    rw [List.reverse_cons, List.reverse_cons]
    exact (Reps.reverse t).append (Reps.one h)
theorem Reps.flat {vs : List V} {ds : List D} (h : Reps C G vs ds) : ∀ n : Nat, Reps C G (List.replicate n vs).flatten (List.replicate n ds).flatten
  | 0 => .nil
  | n + 1 => by
    rw [List.replicate_succ, List.replicate_succ, List.flatten_cons, List.flatten_cons]
    exact h.append (Reps.flat h n)
theorem Reps.ints : ∀ ns : List Int, Reps C G (ns.map V.int) (ns.map D.int)
  | [] => .nil
  | n :: r => .cons (.int n) (Reps.ints r)
/-- ints are borne by ints -/
theorem Reps.of_ints : ∀ {vs : List V} {ns : List Int}, Reps C G vs (ns.map D.int) → vs = ns.map V.int
  | _, [], .nil => rfl
  | _, n :: r, .cons (.int _) t => by rw [Reps.of_ints t]; rfl
theorem Reps.of_bls : ∀ {vs : List V} {bs : List Bool}, Reps C G vs (bs.map D.bl) → vs = bs.map V.bl
  | _, [], .nil => rfl
  | _, n :: r, .cons (.bl _) t => by rw [Reps.of_bls t]; rfl
end

/-! ### the pen -/
structure Pen where
  cells : List Int
  at_ : Nat
  digits : Int
  count : Int
  fold : Int
def kCells : Key := .inr "cells"
def kAt : Key := .inr "at"
def kDigits : Key := .inr "digits"
def kCount : Key := .inr "count"
def kFold : Key := .inr "fold"
def penKvs (l : Addr) (p : Pen) : List (Key × V) := [(kCells, .ref l), (kAt, .int p.at_), (kDigits, .int p.digits), (kCount, .int p.count), (kFold, .int p.fold)]
def PenAt (C : Ctx) (G H : Hp) (p : Pen) : Prop := ∀ a, C.pa = some a → G a = none ∧ H a = some (.dK (penKvs C.pl p)) ∧ G C.pl = some (.lst (p.cells.map V.int))
theorem PenAt.none {C : Ctx} {G H : Hp} {p : Pen} (h : C.pa = Option.none) : PenAt C G H p := fun a e => by
  rw [h] at e
  cases e

/-- the tables of code objects; the place of sys.modules is taken -/
structure Tb (C : Ctx) (H : Hp) : Prop where
  tabs : LamX.Tabs C.T H
  sm : ∃ o u, H sysModules = some (.frz o u)
  co : ∀ f c q Gc, C.cl = some (f, c, q, Gc) → H c = some (LamX.CodeO c q)
theorem Tb.ext {C : Ctx} {H H' : Hp} (t : Tb C H) (e : ∀ b o, H b = some o → H' b = some o) : Tb C H' := ⟨t.tabs.ext e, t.sm.elim fun o h => h.elim fun u q => ⟨o, u, e _ _ q⟩, fun f c q Gc h => e _ _ (t.co f c q Gc h)⟩
/-! ### steps -/
/-- nothing but new objects -/
structure Alc (G H G' H' : Hp) : Prop where
  sub : Sub G' H'
  gro : Sub G G'
  new : ∀ a o, G' a = some o → G a = some o ∨ H a = none
  kee : Sub H H'
/-- new objects, and the pen and the tables turned -/
structure Ext (C : Ctx) (G H G' H' : Hp) : Prop where
  sub : Sub G' H'
  gro : Sub G G'
  new : ∀ a o, G' a = some o → G a = some o ∨ H a = none ∨ ∃ q, o = LamX.CodeO a q
  kee : ∀ a o, H a = some o → C.pa ≠ some a → (∀ ps, o ≠ .tbl ps) → H' a = some o
  fre : ∀ a, H' a = none → H a = none
  tab : Tb C H'
section
variable {C : Ctx} {G H G' H' G2 H2 : Hp}
theorem Alc.refl (h : Sub G H) : Alc G H G H := ⟨h, Sub.refl _, fun _ _ e => .inl e, Sub.refl _⟩
theorem free_of (k : Sub H H') {a : Addr} (h : H' a = none) : H a = none := by
  cases q : H a with
  | none => rfl
  | some o =>
    rw [k a o q] at h
    cases h
theorem Alc.trans (a : Alc G H G' H') (b : Alc G' H' G2 H2) : Alc G H G2 H2 :=
  ⟨b.sub, a.gro.trans b.gro, fun c o e => (b.new c o e).elim (fun q => a.new c o q) fun q => .inr (free_of a.kee q), a.kee.trans b.kee⟩
theorem Alc.ext (a : Alc G H G' H') (t : Tb C H) : Ext C G H G' H' := ⟨a.sub, a.gro, fun x o e => (a.new x o e).imp id .inl, fun c o e _ _ => a.kee c o e, fun _ h => free_of a.kee h, t.ext a.kee⟩
theorem PenAt.alc {p : Pen} (h : PenAt C G H p) (a : Alc G H G' H') : PenAt C G' H' p := fun x e => by
  obtain ⟨n, h1, h2⟩ := h x e
  refine ⟨?_, a.kee _ _ h1, a.gro _ _ h2⟩
  cases q : G' x with
  | none => rfl
  | some o =>
    rcases a.new x o q with z | z
    · rw [n] at z
      cases z
    · rw [h1] at z
      cases z
theorem Ext.refl (h : Sub G H) (t : Tb C H) : Ext C G H G H := ⟨h, Sub.refl _, fun _ _ e => .inl e, fun _ _ e _ _ => e, fun _ e => e, t⟩
theorem Ext.trans (a : Ext C G H G' H') (b : Ext C G' H' G2 H2) : Ext C G H G2 H2 :=
  ⟨b.sub, a.gro.trans b.gro, fun c o e => (b.new c o e).elim (fun q => a.new c o q) fun q => .inr (q.imp (a.fre c) id), fun c o e h1 h2 => b.kee c o (a.kee c o e h1 h2) h1 h2, fun c e => a.fre c (b.fre c e), b.tab⟩
/-- a new object, at once frozen -/
theorem Alc.put {p : Addr} {o : HO} (h : Sub G H) (hp : H p = none) : Alc G H (upd G p o) (upd H p o) := by
  have hg : G p = none := free_of h hp
  refine ⟨fun a u e => ?_, fun a u e => ?_, fun a u e => ?_, fun a u e => ?_⟩
  · by_cases ha : a = p
    · subst ha
      rw [upd_same] at e ⊢
      exact e
    · rw [upd_ne ha] at e ⊢
      exact h a u e
  · rw [upd_ne (ne_of_none e hg)]
    exact e
  · by_cases ha : a = p
    · subst ha
      exact .inr hp
    · rw [upd_ne ha] at e
      exact .inl e
  · rw [upd_ne (ne_of_none e hp)]
    exact e
/-- a new object, not frozen -/
theorem Alc.own {p : Addr} {o : HO} (h : Sub G H) (hp : H p = none) : Alc G H G (upd H p o) :=
  ⟨fun a u e => by rw [upd_ne (ne_of_none (h a u e) hp)]; exact h a u e, Sub.refl _, fun _ _ e => .inl e, fun a u e => by rw [upd_ne (ne_of_none e hp)]; exact e⟩
/-- a list of one's own is frozen -/
theorem sub_froz {p : Addr} {o : HO} (h : Sub G H) (hp : H p = some o) : Sub (upd G p o) H := fun a u e => by
  by_cases ha : a = p
  · subst ha
    rw [upd_same] at e
    rw [hp]
    exact e
  · rw [upd_ne ha] at e
    exact h a u e
theorem sub_upd {p : Addr} {o : HO} (hp : G p = none) : Sub G (upd G p o) := fun a u e => by
  rw [upd_ne (ne_of_none e hp)]
  exact e
end

/-! ### the frame's slots -/
/-- a slot: nothing is known, a value that never changes any more, a list of the frame's own -/
inductive Slot where
  | un
  | val (d : D)
  | own (ds : List D)
abbrev Env := List Slot
inductive SlotOk (C : Ctx) (G H : Hp) : Option V → Slot → Prop where
  | un (x : Option V) : SlotOk C G H x .un
  | val {v : V} {d : D} (r : Rep C G v d) : SlotOk C G H (some v) (.val d)
  | own {p : Addr} {vs : List V} {ds : List D} (h : H p = some (.lst vs)) (n : G p = none) (r : Reps C G vs ds) : SlotOk C G H (some (.ref p)) (.own ds)
/-- no table is frozen -/
def NT (C : Ctx) (G : Hp) : Prop := ∀ p ∈ C.T, G p.1 = none
theorem Ext.nt {C : Ctx} {G H G' H' : Hp} (a : Ext C G H G' H') (t : Tb C H) (n : NT C G) : NT C G' := fun p hp => by
  cases q : G' p.1 with
  | none => rfl
  | some o =>
    rcases a.new _ _ q with z | z | ⟨c, z⟩
    · rw [n p hp] at z
      cases z
    · obtain ⟨_, k, _⟩ := t.tabs p hp
      rw [z] at k
      cases k
    · obtain ⟨_, k, _⟩ := a.tab.tabs p hp
      rw [a.sub _ _ q, z] at k
      cases k
/-- the state of a frame: what is frozen, what is tracked, the slots, the pen -/
structure LOk (C : Ctx) (G H : Hp) (σ : St) (env : Env) (p : Pen) : Prop where
  sub : Sub G H
  tab : Tb C H
  pen : PenAt C G H p
  len : σ.length = env.length
  slot : ∀ (i : Nat) (x : Option V) (s : Slot), σ[i]? = some x → env[i]? = some s → SlotOk C G H x s
  dis : ∀ (i j : Nat) (ds es : List D) (a : Addr), env[i]? = some (.own ds) → env[j]? = some (.own es) → σ[i]? = some (some (.ref a)) → σ[j]? = some (some (.ref a)) → i = j
  nt : NT C G
section
variable {C : Ctx} {G H G' H' : Hp} {σ : St} {env : Env} {p p' : Pen}
theorem SlotOk.step {x : Option V} {s : Slot} (h : SlotOk C G H x s) (a : Ext C G H G' H') (hp : PenAt C G H p) : SlotOk C G' H' x s := by
  cases h with
  | un => exact .un _
  | val r => exact .val (r.mono a.gro)
  | @own q vs ds h n r =>
    refine .own (a.kee _ _ h (fun e => ?_) (fun ps z => by cases z)) ?_ (r.mono a.gro)
    · obtain ⟨_, h1, _⟩ := hp q e
      rw [h] at h1
      cases h1
    · cases z : G' q with
      | none => rfl
      | some o =>
        rcases a.new q o z with y | y | ⟨c, y⟩
        · rw [n] at y
          cases y
        · rw [h] at y
          cases y
        · have k := a.kee _ _ h (fun e => by
            obtain ⟨_, h1, _⟩ := hp q e
            rw [h] at h1
            cases h1) (fun ps z => by cases z)
          rw [a.sub _ _ z, y] at k
          cases k
theorem LOk.step (L : LOk C G H σ env p) (a : Ext C G H G' H') (hp : PenAt C G' H' p') : LOk C G' H' σ env p' :=
  ⟨a.sub, a.tab, hp, L.len, fun i x s h1 h2 => (L.slot i x s h1 h2).step a L.pen, L.dis, a.nt L.tab L.nt⟩
theorem LOk.alc (L : LOk C G H σ env p) (a : Alc G H G' H') : LOk C G' H' σ env p := L.step (a.ext L.tab) (L.pen.alc a)
theorem LOk.ext (L : LOk C G H σ env p) (a : Alc G H G' H') : Ext C G H G' H' := a.ext L.tab
/-- the value at a slot -/
theorem LOk.val (L : LOk C G H σ env p) {i : Nat} {d : D} (e : env[i]? = some (.val d)) : ∃ v, σ[i]? = some (some v) ∧ Rep C G v d := by
  have hi : i < σ.length := by
    rw [L.len]
    exact (List.getElem?_eq_some_iff.mp e).1
  have q := L.slot i _ _ (List.getElem?_eq_getElem hi) e
  cases z : σ[i] with
  | none =>
    rw [z] at q
    cases q
  | some v =>
    rw [z] at q
    cases q with
    | val r => exact ⟨v, by rw [List.getElem?_eq_getElem hi, z], r⟩
theorem LOk.own (L : LOk C G H σ env p) {i : Nat} {ds : List D} (e : env[i]? = some (.own ds)) : ∃ a vs, σ[i]? = some (some (.ref a)) ∧ H a = some (.lst vs) ∧ G a = none ∧ Reps C G vs ds := by
  have hi : i < σ.length := by
    rw [L.len]
    exact (List.getElem?_eq_some_iff.mp e).1
  have q := L.slot i _ _ (List.getElem?_eq_getElem hi) e
  cases z : σ[i] with
  | none =>
    rw [z] at q
    cases q
  | some v =>
    rw [z] at q
    cases q with
    | @own a vs _ h n r => exact ⟨a, vs, by rw [List.getElem?_eq_getElem hi, z], h, n, r⟩
end
end Pu
end

section
set_option maxHeartbeats 2000000
namespace Pu
open PySem PySem.Spec PyProof.Rows L2

/-! ### what a mirror hands back -/
/-- an error: its class's name, its fields (the last stored first) -/
structure Err where
  c : Str
  fs : List (Str × D)
inductive Out (α : Type) where
  | ok (a : α) (p : Pen)
  | err (e : Err) (p : Pen)
  | bad
def Out.bind {α β : Type} (o : Out α) (k : α → Pen → Out β) : Out β := match o with
  | .ok a p => k a p
  | .err e p => .err e p
  | .bad => .bad
def OutP {α : Type} (o : Out α) (f : α → Pen → Prop) (g : Err → Pen → Prop) : Prop := match o with
  | .ok a p => f a p
  | .err e p => g e p
  | .bad => False
theorem OutP.bind {α β : Type} {o : Out α} {k : α → Pen → Out β} {f : β → Pen → Prop} {g : Err → Pen → Prop} (h : OutP (o.bind k) f g) : OutP o (fun a p => OutP (k a p) f g) g := by
  cases o <;> exact h
theorem OutP.mk {α β : Type} {o : Out α} {k : α → Pen → Out β} {f : β → Pen → Prop} {g : Err → Pen → Prop} (h : OutP o (fun a p => OutP (k a p) f g) g) : OutP (o.bind k) f g := by
  cases o <;> exact h
theorem OutP.imp {α : Type} {o : Out α} {f f' : α → Pen → Prop} {g g' : Err → Pen → Prop} (h : OutP o f g) (hf : ∀ a p, f a p → f' a p) (hg : ∀ e p, g e p → g' e p) : OutP o f' g' := by
  cases o
  · exact hf _ _ h
  · exact hg _ _ h
  · exact h
abbrev EM := Env → Pen → Out D
abbrev TM := Env → Pen → Out Bool
abbrev AM := Env → Pen → Out (List D)

/-- an error as it lies behind a call: its class, its own dict -/
def ErrRep (C : Ctx) (G H : Hp) (cls : Value) (dd : Option Addr) (e : Err) : Prop := ∃ cA, C.mg e.c = some (.ref cA) ∧ cls = .ref cA ∧
  ((e.fs = [] ∧ dd = none) ∨ ∃ a fvs, dd = some a ∧ G a = some (.xd fvs) ∧ RepF C G fvs e.fs)
/-- what is wanted of an error -/
def ErrP (C : Ctx) (W : WX) (G H : Hp) (σ : St) (e : Err) (q : Pen) : Prop := ∀ cls dd G' H', Ext C G H G' H' → PenAt C G' H' q → ErrRep C G' H' cls dd e → W cls dd σ H'
theorem ErrP.step {C : Ctx} {W : WX} {G H G' H' : Hp} {σ : St} {e : Err} {q : Pen} (h : ErrP C W G H σ e q) (x : Ext C G H G' H') : ErrP C W G' H' σ e q := fun cls dd G2 H2 y p r => h cls dd G2 H2 (x.trans y) p r

/-- a value that is borne by what is frozen, or is a list of the frame's own -/
def BRep (C : Ctx) (G : Hp) (σ : St) (env : Env) (v : V) (d : D) : Prop := Rep C G v d ∨ ∃ (i : Nat) (ds : List D) (a : Addr), v = .ref a ∧ d = .lst ds ∧ σ[i]? = some (some (.ref a)) ∧ env[i]? = some (.own ds)
inductive BReps (C : Ctx) (G : Hp) (σ : St) (env : Env) : List V → List D → Prop where
  | nil : BReps C G σ env [] []
  | cons {v : V} {d : D} {vs : List V} {ds : List D} (h : BRep C G σ env v d) (t : BReps C G σ env vs ds) : BReps C G σ env (v :: vs) (d :: ds)
section
variable {C : Ctx} {G H G' H' : Hp} {σ : St} {env : Env} {p : Pen} {v : V}
theorem BRep.mono {d : D} (h : BRep C G σ env v d) (s : Sub G G') : BRep C G' σ env v d := h.elim (fun r => .inl (r.mono s)) .inr
theorem BReps.mono (s : Sub G G') : ∀ {vs : List V} {ds : List D}, BReps C G σ env vs ds → BReps C G' σ env vs ds
  | _, _, .nil => .nil
  | _, _, .cons h t => .cons (h.mono s) (BReps.mono s t)
theorem BReps.of : ∀ {vs : List V} {ds : List D}, Reps C G vs ds → BReps C G σ env vs ds
  | _, _, .nil => .nil
  | _, _, .cons h t => .cons (.inl h) (BReps.of t)
theorem BRep.lst {ds : List D} (h : BRep C G σ env v (.lst ds)) (L : LOk C G H σ env p) : ∃ a vs, v = .ref a ∧ H a = some (.lst vs) ∧ Reps C G vs ds := by
  rcases h with h | ⟨i, es, a, e1, e2, e3, e4⟩
  · cases h with
    | lst h r => exact ⟨_, _, rfl, L.sub _ _ h, r⟩
  · cases e2
    obtain ⟨b, vs, h1, h2, _, h4⟩ := L.own e4
    rw [e3] at h1
    cases h1
    exact ⟨a, vs, e1, h2, h4⟩
theorem BRep.tup {ds : List D} (h : BRep C G σ env v (.tup ds)) : ∃ a vs, v = .ref a ∧ G a = some (.tup vs) ∧ Reps C G vs ds := by
  rcases h with h | ⟨i, es, a, e1, e2, e3, e4⟩
  · cases h with
    | tup h r => exact ⟨_, _, rfl, h, r⟩
  · cases e2
theorem BRep.int {i : Int} (h : BRep C G σ env v (.int i)) : v = .int i := by
  rcases h with h | ⟨_, _, _, _, e2, _⟩
  · cases h
    rfl
  · cases e2
theorem BRep.bl {b : Bool} (h : BRep C G σ env v (.bl b)) : v = .bl b := by
  rcases h with h | ⟨_, _, _, _, e2, _⟩
  · cases h
    rfl
  · cases e2
theorem BRep.str {x : Str} (h : BRep C G σ env v (.str x)) : v = .str x := by
  rcases h with h | ⟨_, _, _, _, e2, _⟩
  · cases h
    rfl
  · cases e2
theorem BRep.non (h : BRep C G σ env v .non) : v = .non := by
  rcases h with h | ⟨_, _, _, _, e2, _⟩
  · cases h
    rfl
  · cases e2
/-- a list, a tuple: its items -/
theorem BRep.seq {d : D} {ds : List D} (h : BRep C G σ env v d) (L : LOk C G H σ env p) (e : d = .lst ds ∨ d = .tup ds) : ∃ a vs, v = .ref a ∧ (H a = some (.lst vs) ∨ H a = some (.tup vs)) ∧ Reps C G vs ds := by
  rcases e with e | e
  · subst e
    obtain ⟨a, vs, h1, h2, h3⟩ := h.lst L
    exact ⟨a, vs, h1, .inl h2, h3⟩
  · subst e
    obtain ⟨a, vs, h1, h2, h3⟩ := h.tup
    exact ⟨a, vs, h1, .inr (L.sub _ _ h2), h3⟩
theorem BReps.length : ∀ {vs : List V} {ds : List D}, BReps C G σ env vs ds → vs.length = ds.length
  | _, _, .nil => rfl
  | _, _, .cons _ t => by rw [List.length_cons, List.length_cons, BReps.length t]
end

/-! ### readings by a mirror -/
/-- a frozen value -/
def rE (C : Ctx) (W : WX) (m : EM) : TE := fun σ H Q => ∃ G env p, LOk C G H σ env p ∧
  OutP (m env p) (fun d q => ∀ v G' H', Ext C G H G' H' → PenAt C G' H' q → Rep C G' v d → Q v H') (ErrP C W G H σ)
/-- a frozen value, or a list of the frame's own -/
def rB (C : Ctx) (W : WX) (m : EM) : TE := fun σ H Q => ∃ G env p, LOk C G H σ env p ∧
  OutP (m env p) (fun d q => ∀ v G' H', Ext C G H G' H' → PenAt C G' H' q → BRep C G' σ env v d → Q v H') (ErrP C W G H σ)
/-- a list just made -/
def rF (C : Ctx) (W : WX) (m : AM) : TE := fun σ H Q => ∃ G env p, LOk C G H σ env p ∧
  OutP (m env p) (fun ds q => ∀ l vs G' H', Ext C G H G' H' → PenAt C G' H' q → H l = none → G' l = none → H' l = some (.lst vs) → Reps C G' vs ds → Q (.ref l) H') (ErrP C W G H σ)
def rT (C : Ctx) (W : WX) (m : TM) : TT := fun σ H Q => ∃ G env p, LOk C G H σ env p ∧
  OutP (m env p) (fun b q => ∀ G' H', Ext C G H G' H' → PenAt C G' H' q → Q b H') (ErrP C W G H σ)
def rA (C : Ctx) (W : WX) (m : AM) : TA := fun σ H Q => ∃ G env p, LOk C G H σ env p ∧
  OutP (m env p) (fun ds q => ∀ vs G' H', Ext C G H G' H' → PenAt C G' H' q → Reps C G' vs ds → Q vs H') (ErrP C W G H σ)
def rAB (C : Ctx) (W : WX) (m : AM) : TA := fun σ H Q => ∃ G env p, LOk C G H σ env p ∧
  OutP (m env p) (fun ds q => ∀ vs G' H', Ext C G H G' H' → PenAt C G' H' q → BReps C G' σ env vs ds → Q vs H') (ErrP C W G H σ)

section
variable {X : Cx} {C : Ctx} {W : WX}
theorem _root_.L2.PE.of {e : Expr} {t t' : TE} (h : PE X e t) (i : ∀ σ H Q, t' σ H Q → t σ H Q) : PE X e t' := ⟨fun pins s σ H Q I z => h.run pins s σ H Q I (i _ _ _ z)⟩
theorem _root_.L2.PT.of {e : Expr} {t t' : TT} (h : PT X e t) (i : ∀ σ H Q, t' σ H Q → t σ H Q) : PT X e t' := ⟨fun pins s σ H Q I z => h.run pins s σ H Q I (i _ _ _ z)⟩
theorem _root_.L2.PW.of {e : Expr} {t t' : TT} (h : PW X e t) (i : ∀ σ H Q, t' σ H Q → t σ H Q) : PW X e t' := ⟨fun wh pins s σ H Q I z => h.run wh pins s σ H Q I (i _ _ _ z)⟩
theorem _root_.L2.PA.of {es : List Expr} {t t' : TA} (h : PA X es t) (i : ∀ σ H Q, t' σ H Q → t σ H Q) : PA X es t' := ⟨fun pos pins s σ H Q I z => h.run pos pins s σ H Q I (i _ _ _ z)⟩
theorem _root_.L2.PS.of {s : Stmt} {t t' : TS} (h : PS X s t) (i : ∀ D σ H, t' D σ H → t D σ H) : PS X s t' := ⟨fun pins s σ H D I z => h.run pins s σ H D I (i _ _ _ z)⟩
theorem _root_.L2.PSs.of {s : List Stmt} {t t' : TS} (h : PSs X s t) (i : ∀ D σ H, t' D σ H → t D σ H) : PSs X s t' := ⟨fun pins s σ H D I z => h.run pins s σ H D I (i _ _ _ z)⟩

/-- frozen is borrowable -/
theorem pb {e : Expr} {m : EM} (h : PE X e (rE C W m)) : PE X e (rB C W m) := h.of fun σ H Q ⟨G, env, p, L, o⟩ => ⟨G, env, p, L, o.imp (fun d q z v G' H' x y r => z v G' H' x y (.inl r)) fun _ _ z => z⟩
/-- a list just made, frozen -/
def mFr (m : AM) : EM := fun env p => (m env p).bind fun ds q => .ok (.lst ds) q
theorem pf {e : Expr} {m : AM} (h : PE X e (rF C W m)) : PE X e (rE C W (mFr m)) := h.of fun σ H Q ⟨G, env, p, L, o⟩ => ⟨G, env, p, L, o.bind.imp (fun ds q z l vs G' H' x y hl hg hh r => by
  have s2 : Sub (upd G' l (.lst vs)) H' := sub_froz x.sub hh
  refine z (.ref l) (upd G' l (.lst vs)) H' ⟨s2, x.gro.trans (sub_upd hg), fun a o e => ?_, x.kee, x.fre, x.tab⟩ (fun a ea => ?_) (.lst upd_same (r.mono (sub_upd hg)))
  · by_cases ha : a = l
    · subst ha
      exact .inr (.inl hl)
    · rw [upd_ne ha] at e
      exact x.new a o e
  · obtain ⟨n, h1, h2⟩ := y a ea
    have na : a ≠ l := ne_of h1 hh (by intro w; cases w)
    exact ⟨by rw [upd_ne na]; exact n, h1, sub_upd hg _ _ h2⟩) fun _ _ z => z⟩
theorem pfb {e : Expr} {m : AM} (h : PE X e (rF C W m)) : PE X e (rB C W (mFr m)) := pb (pf h)

/-! ### names, constants -/
def mVal (i : Nat) : EM := fun env p => match env[i]? with
  | some (.val d) => .ok d p
  | _ => .bad
theorem pm_val (i : Nat) {x : Str} {pos : Pos} (hN : X.N[i]? = some x := by rfl) (hv : Vis X.env.scope x := by first | exact Or.inl rfl | exact Or.inr (Or.inl rfl) | exact Or.inr (Or.inr rfl)) (hd : (x == ("__debug__" : Str)) = false := by decide)
    (hcd : (x == ("__classdict__" : Str)) = false := by decide) : PE X (.Name x pos) (rE C W (mVal i)) := (pe_var (i := i) hN hv hd hcd).of fun σ H Q ⟨G, env, p, L, o⟩ => by
  unfold mVal at o
  split at o
  · rename_i d e
    obtain ⟨v, h1, r⟩ := L.val e
    exact ⟨v, h1, o v G H (Ext.refl L.sub L.tab) L.pen r⟩
  · exact o.elim
def mOwn (i : Nat) : EM := fun env p => match env[i]? with
  | some (.own ds) => .ok (.lst ds) p
  | _ => .bad
theorem pm_own (i : Nat) {x : Str} {pos : Pos} (hN : X.N[i]? = some x := by rfl) (hv : Vis X.env.scope x := by first | exact Or.inl rfl | exact Or.inr (Or.inl rfl) | exact Or.inr (Or.inr rfl)) (hd : (x == ("__debug__" : Str)) = false := by decide)
    (hcd : (x == ("__classdict__" : Str)) = false := by decide) : PE X (.Name x pos) (rB C W (mOwn i)) := (pe_var (i := i) hN hv hd hcd).of fun σ H Q ⟨G, env, p, L, o⟩ => by
  unfold mOwn at o
  split at o
  · rename_i ds e
    obtain ⟨a, vs, h1, h2, h3, r⟩ := L.own e
    exact ⟨_, h1, o _ G H (Ext.refl L.sub L.tab) L.pen (.inr ⟨i, ds, a, rfl, rfl, h1, e⟩)⟩
  · exact o.elim
def mC (d : D) : EM := fun _ p => .ok d p
theorem rE_const {m : EM} {v : V} {d : D} (hm : m = mC d) (r : ∀ G, Rep C G v d) : ∀ σ H Q, rE C W m σ H Q → tC v σ H Q := fun σ H Q ⟨G, env, p, L, o⟩ => by
  subst hm
  exact o v G H (Ext.refl L.sub L.tab) L.pen (r G)
theorem pm_int {i j pos} : PE X (.Constant (.int i) j pos) (rE C W (mC (.int i))) := pe_int.of (rE_const rfl fun _ => .int _)
theorem pm_bl {b j pos} : PE X (.Constant (.bool b) j pos) (rE C W (mC (.bl b))) := pe_bl.of (rE_const rfl fun _ => .bl _)
theorem pm_non {j pos} : PE X (.Constant .none j pos) (rE C W (mC .non)) := pe_non.of (rE_const rfl fun _ => .non)
theorem pm_str {x j pos} : PE X (.Constant (.str x) j pos) (rE C W (mC (.str x))) := pe_str.of (rE_const rfl fun _ => .str _)
/-- a module's int -/
theorem pm_gint {x : Str} {i : Int} {u : Value} {pos : Pos} (hm : X.mg x = some u) (r : RelV (.int i) u) (hg : Gl X x := by rfl) (hd : (x == ("__debug__" : Str)) = false := by decide) : PE X (.Name x pos) (rE C W (mC (.int i))) := (pe_glob hg hm r hd).of (rE_const rfl fun _ => .int _)
/-- a def of the module as a value -/
theorem pm_gfn {x : Str} {f : Addr} {pos : Pos} (hc : C.mg = X.mg) (hm : X.mg x = some (.ref f)) (hg : Gl X x := by rfl) (hd : (x == ("__debug__" : Str)) = false := by decide) : PE X (.Name x pos) (rE C W (mC (.fn x))) := (pe_glob (v := .ref f) hg hm rfl hd).of (rE_const rfl fun _ => .fn (by rw [hc]; exact hm))
end
end Pu
end

section
set_option maxHeartbeats 2000000
namespace Pu
open PySem PySem.Spec PyProof.Rows L2

/-! ### operators -/
theorem op_or {X : Cx} {f : Value → Value → Sem Value} {r1 r2 : R2} (h1 : OpR X f r1) (h2 : OpR X f r2) : OpR X f (fun x y H Q => r1 x y H Q ∨ r2 x y H Q) := by
  intro pins s σ H x y v u Q I rx ry h
  rcases h with h | h
  · exact h1 pins s σ H x y v u Q I rx ry h
  · exact h2 pins s σ H x y v u Q I rx ry h
/-- a rule's reading does what k says -/
def OpOk (C : Ctx) (r : R2) (k : D → D → Option D) : Prop := ∀ (G H : Hp) (σ : St) (env : Env) (p : Pen) (v w : V) (d e z : D) (Q : VK), LOk C G H σ env p → BRep C G σ env v d → BRep C G σ env w e → k d e = some z →
  (∀ x G' H', Alc G H G' H' → Rep C G' x z → Q x H') → r v w H Q
/-- the same for a list just made -/
def FOpOk (C : Ctx) (r : R2) (k : D → D → Option (List D)) : Prop := ∀ (G H : Hp) (σ : St) (env : Env) (p : Pen) (v w : V) (d e : D) (z : List D) (Q : VK), LOk C G H σ env p → BRep C G σ env v d → BRep C G σ env w e → k d e = some z →
  (∀ l vs, H l = none → Reps C G vs z → Q (.ref l) (upd H l (.lst vs))) → r v w H Q
def mOp (k : D → D → Option D) (ma mb : EM) : EM := fun env p => (ma env p).bind fun d p1 => (mb env p1).bind fun e p2 => match k d e with
  | some z => .ok z p2
  | none => .bad
def mFOp (k : D → D → Option (List D)) (ma mb : EM) : AM := fun env p => (ma env p).bind fun d p1 => (mb env p1).bind fun e p2 => match k d e with
  | some z => .ok z p2
  | none => .bad
section
variable {X : Cx} {C : Ctx} {W : WX} {a b : Expr} {ma mb : EM}
theorem rd_op {r : R2} {k : D → D → Option D} (hk : OpOk C r k) {σ : St} {H : Hp} {Q : VK} (h : rE C W (mOp k ma mb) σ H Q) : tOp r (rB C W ma) (rB C W mb) σ H Q := by
  obtain ⟨G, env, p, L, o⟩ := h
  refine ⟨G, env, p, L, o.bind.imp (fun d q z v G1 H1 x1 y1 r1 => ?_) fun _ _ z => z⟩
  refine ⟨G1, env, q, L.step x1 y1, z.bind.imp (fun e q2 z2 w G2 H2 x2 y2 r2 => ?_) fun _ _ z => z.step x1⟩
  have L2 := (L.step x1 y1).step x2 y2
  cases ek : k d e with
  | none =>
    rw [ek] at z2
    exact z2.elim
  | some u =>
    rw [ek] at z2
    exact hk G2 H2 σ env q2 v w d e u Q L2 (r1.mono x2.gro) r2 ek fun x G' H' al rx => z2 x G' H' ((x1.trans x2).trans (L2.ext al)) (y2.alc al) rx
theorem rd_fop {r : R2} {k : D → D → Option (List D)} (hk : FOpOk C r k) {σ : St} {H : Hp} {Q : VK} (h : rF C W (mFOp k ma mb) σ H Q) : tOp r (rB C W ma) (rB C W mb) σ H Q := by
  obtain ⟨G, env, p, L, o⟩ := h
  refine ⟨G, env, p, L, o.bind.imp (fun d q z v G1 H1 x1 y1 r1 => ?_) fun _ _ z => z⟩
  refine ⟨G1, env, q, L.step x1 y1, z.bind.imp (fun e q2 z2 w G2 H2 x2 y2 r2 => ?_) fun _ _ z => z.step x1⟩
  have L2 := (L.step x1 y1).step x2 y2
  cases ek : k d e with
  | none =>
    rw [ek] at z2
    exact z2.elim
  | some u =>
    rw [ek] at z2
    refine hk G2 H2 σ env q2 v w d e u Q L2 (r1.mono x2.gro) r2 ek fun l vs hl rv => ?_
    have al : Alc G2 H2 G2 (upd H2 l (.lst vs)) := Alc.own L2.sub hl
    exact z2 l vs G2 _ ((x1.trans x2).trans (L2.ext al)) (y2.alc al) ((x1.trans x2).fre _ hl) (free_of L2.sub hl) upd_same rv
theorem pm_op {op : Operator} {r : R2} {k : D → D → Option D} {pos : Pos} (hk : OpOk C r k) (ho : OpR X (binaryOp op) r) (ha : PE X a (rB C W ma)) (hb : PE X b (rB C W mb)) : PE X (.BinOp a op b pos) (rE C W (mOp k ma mb)) :=
  (pe_op ho ha hb).of fun _ _ _ h => rd_op hk h
theorem pm_fop {op : Operator} {r : R2} {k : D → D → Option (List D)} {pos : Pos} (hk : FOpOk C r k) (ho : OpR X (binaryOp op) r) (ha : PE X a (rB C W ma)) (hb : PE X b (rB C W mb)) : PE X (.BinOp a op b pos) (rF C W (mFOp k ma mb)) :=
  (pe_op ho ha hb).of fun _ _ _ h => rd_fop hk h
theorem pm_cmp {op : CmpOp} {r : R2} {k : D → D → Option D} {pos : Pos} (hk : OpOk C r k) (ho : OpR X (compareOp op) r) (ha : PE X a (rB C W ma)) (hb : PE X b (rB C W mb)) (hm : behindInMarks op b = false) : PE X (.Compare a [op] [b] pos) (rE C W (mOp k ma mb)) :=
  (pe_cmpR ho ha hb hm).of fun _ _ _ h => rd_op hk h
/-- a bool as a test -/
def mT (m : EM) : TM := fun env p => (m env p).bind fun d q => match d with
  | .bl b => .ok b q
  | _ => .bad
theorem rd_test {m : EM} {σ : St} {H : Hp} {Q : Bool → Hp → Prop} (h : rT C W (mT m) σ H Q) : rE C W m σ H (fun x H' => ∃ k, x = .bl k ∧ Q k H') := by
  obtain ⟨G, env, p, L, o⟩ := h
  refine ⟨G, env, p, L, o.bind.imp (fun d q z v G1 H1 x1 y1 r1 => ?_) fun _ _ z => z⟩
  cases d with
  | bl b =>
    cases r1
    exact ⟨b, rfl, z G1 H1 x1 y1⟩
  | _ => exact z.elim
theorem tm_cmp {op : CmpOp} {r : R2} {k : D → D → Option D} {pos : Pos} (hk : OpOk C r k) (ho : OpR X (compareOp op) r) (ha : PE X a (rB C W ma)) (hb : PE X b (rB C W mb)) (hm : behindInMarks op b = false) : PT X (.Compare a [op] [b] pos) (rT C W (mT (mOp k ma mb))) :=
  (pt_cmpR ho ha hb hm).of fun _ _ _ h => rd_op hk (rd_test h)
/-- a value that is a bool -/
theorem tm_val {e : Expr} {m : EM} (h : PE X e (rE C W m)) (he : ∀ whole, isTrue e X.env whole = (do let v ← whole; standAt e.pos; holding [v] (truthy v)) := by intro _; rfl) : PT X e (rT C W (mT m)) :=
  (pt_val h he).of fun _ _ _ h => rd_test h
end

/-! ### which operators there are -/
def kInt (g : Int → Int → Option D) : D → D → Option D
  | .int i, .int j => g i j
  | _, _ => none
theorem ok_int {C : Ctx} {c : Int → Int → Prop} {f : Int → Int → V} {g : Int → Int → Option D} (h : ∀ i j z, g i j = some z → c i j ∧ ∀ G, Rep C G (f i j) z) : OpOk C (rI c f) (kInt g) := by
  intro G H σ env p v w d e z Q L rv rw ek q
  unfold kInt at ek
  split at ek
  · rename_i i j
    rw [rv.int, rw.int]
    obtain ⟨h1, h2⟩ := h i j z ek
    exact ⟨i, j, rfl, rfl, h1, q _ G H (Alc.refl L.sub) (h2 G)⟩
  · cases ek
theorem ok_int0 {C : Ctx} {f : Int → Int → V} {g : Int → Int → D} (h : ∀ i j G, Rep C G (f i j) (g i j)) : OpOk C (rI0 f) (kInt fun i j => some (g i j)) := by
  intro G H σ env p v w d e z Q L rv rw ek q
  unfold kInt at ek
  split at ek
  · rename_i i j
    rw [rv.int, rw.int]
    cases ek
    exact ⟨i, j, rfl, rfl, q _ G H (Alc.refl L.sub) (h i j G)⟩
  · cases ek
abbrev kSub : D → D → Option D := kInt fun i j => some (.int (i - j))
abbrev kLt : D → D → Option D := kInt fun i j => some (.bl (decide (i < j)))
abbrev kLe : D → D → Option D := kInt fun i j => some (.bl (decide (i ≤ j)))
abbrev kGt : D → D → Option D := kInt fun i j => some (.bl (decide (j < i)))
abbrev kGe : D → D → Option D := kInt fun i j => some (.bl (decide (j ≤ i)))
theorem ok_sub {C : Ctx} : OpOk C (rI0 fun i j => .int (i - j)) kSub := ok_int0 (f := fun i j => V.int (i - j)) (g := fun i j => D.int (i - j)) fun _ _ _ => .int _
theorem ok_lt {C : Ctx} : OpOk C (rI0 fun i j => .bl (decide (i < j))) kLt := ok_int0 (f := fun i j => V.bl (decide (i < j))) (g := fun i j => D.bl (decide (i < j))) fun _ _ _ => .bl _
theorem ok_le {C : Ctx} : OpOk C (rI0 fun i j => .bl (decide (i ≤ j))) kLe := ok_int0 (f := fun i j => V.bl (decide (i ≤ j))) (g := fun i j => D.bl (decide (i ≤ j))) fun _ _ _ => .bl _
theorem ok_gt {C : Ctx} : OpOk C (rI0 fun i j => .bl (decide (j < i))) kGt := ok_int0 (f := fun i j => V.bl (decide (j < i))) (g := fun i j => D.bl (decide (j < i))) fun _ _ _ => .bl _
theorem ok_ge {C : Ctx} : OpOk C (rI0 fun i j => .bl (decide (j ≤ i))) kGe := ok_int0 (f := fun i j => V.bl (decide (j ≤ i))) (g := fun i j => D.bl (decide (j ≤ i))) fun _ _ _ => .bl _
/-- products: one side below 2^64, or together below a million bits -/
def gMul (i j : Int) : Bool := decide (i.natAbs < 2 ^ 64) || (decide (j.natAbs < 2 ^ 64) || decide (i.natAbs.log2 + j.natAbs.log2 < 1000000))
def cMul (i j : Int) : Prop := gMul i j = true
theorem op_mulA {X : Cx} : OpR X (binaryOp .Mult) (rI cMul fun i j => .int (i * j)) := by
  intro pins s σ H x y v u Q I rx ry h
  obtain ⟨i, j, e1, e2, c, q⟩ := h
  have c' : gMul i j = true := c
  unfold gMul at c'
  rw [Bool.or_eq_true, Bool.or_eq_true, decide_eq_true_eq, decide_eq_true_eq, decide_eq_true_eq] at c'
  rcases c' with c' | c' | c'
  · exact op_mul pins s σ H x y v u Q I rx ry ⟨i, j, e1, e2, .inl (by omega), q⟩
  · exact op_mul pins s σ H x y v u Q I rx ry ⟨i, j, e1, e2, .inr (by omega), q⟩
  · exact op_mulW pins s σ H x y v u Q I rx ry ⟨i, j, e1, e2, c', q⟩
def kMulI (i j : Int) : Option D := if gMul i j = true then some (.int (i * j)) else none
theorem ok_mulI {C : Ctx} : OpOk C (rI cMul fun i j => .int (i * j)) (kInt kMulI) := ok_int fun i j z h => by
  unfold kMulI at h
  split at h
  · rename_i c
    cases h
    exact ⟨c, fun _ => .int _⟩
  · cases h
/-- floor division -/
def gDiv (j : Int) : Bool := decide (j ≠ 0) && (decide (j.natAbs < 1073741824) || (decide (0 < j) && decide (j.natAbs.log2 < 9000)))
def cDiv (_ j : Int) : Prop := gDiv j = true
theorem op_divA {X : Cx} : OpR X (binaryOp .FloorDiv) (rI cDiv fun i j => .int (i.fdiv j)) := by
  intro pins s σ H x y v u Q I rx ry h
  obtain ⟨i, j, e1, e2, c, q⟩ := h
  have c' : gDiv j = true := c
  unfold gDiv at c'
  rw [Bool.and_eq_true, Bool.or_eq_true, Bool.and_eq_true, decide_eq_true_eq, decide_eq_true_eq, decide_eq_true_eq, decide_eq_true_eq] at c'
  obtain ⟨h0, c' | ⟨h1, h2⟩⟩ := c'
  · exact op_fdivN pins s σ H x y v u Q I rx ry ⟨i, j, e1, e2, ⟨h0, c'⟩, q⟩
  · refine op_fdivW pins s σ H x y v u Q I rx ry ⟨i, j, e1, e2, ⟨h1, h2⟩, ?_⟩
    have e : i.fdiv j = i / j := Int.fdiv_eq_ediv_of_nonneg i (by omega)
    show Q (.int (i / j)) H
    rw [← e]
    exact q
def kDivI (i j : Int) : Option D := if gDiv j = true then some (.int (i.fdiv j)) else none
abbrev kDiv : D → D → Option D := kInt kDivI
theorem ok_div {C : Ctx} : OpOk C (rI cDiv fun i j => .int (i.fdiv j)) kDiv := ok_int fun i j z h => by
  unfold kDivI at h
  split at h
  · rename_i c
    cases h
    exact ⟨c, fun _ => .int _⟩
  · cases h
def kModI (i j : Int) : Option D := if j ≠ 0 then some (.int (i.fmod j)) else none
abbrev kMod : D → D → Option D := kInt kModI
theorem ok_mod {C : Ctx} : OpOk C (rI (fun _ j => j ≠ 0) fun i j => .int (i.fmod j)) kMod := ok_int fun i j z h => by
  unfold kModI at h
  split at h
  · rename_i c
    cases h
    exact ⟨c, fun _ => .int _⟩
  · cases h
def kPowI (i j : Int) : Option D := if 0 ≤ j ∧ j ≤ 1000000 ∧ i.natAbs < 2 ^ 64 then some (.int (i ^ j.toNat)) else none
abbrev kPow : D → D → Option D := kInt kPowI
theorem ok_pow {C : Ctx} : OpOk C (rI CPow fun i j => .int (i ^ j.toNat)) kPow := ok_int fun i j z h => by
  unfold kPowI at h
  split at h
  · rename_i c
    cases h
    exact ⟨c, fun _ => .int _⟩
  · cases h
/-- sums: ints, texts, tuples, lists (a new list, frozen at once) -/
def kAdd : D → D → Option D
  | .int i, .int j => some (.int (i + j))
  | .str x, .str y => if x.length + y.length ≤ sizeLine then some (.str (x ++ y)) else none
  | .tup xs, .tup ys => if xs.length + ys.length ≤ sizeLine then some (.tup (xs ++ ys)) else none
  | .lst xs, .lst ys => if xs.length + ys.length ≤ sizeLine then some (.lst (xs ++ ys)) else none
  | _, _ => none
def rAdd (K : PySem.W.Frag) : R2 := fun x y H Q => rI0 (fun i j => .int (i + j)) x y H Q ∨ ((∃ i j, x = .str i ∧ y = .str j ∧ i.length + j.length ≤ sizeLine ∧ Q (.str (i ++ j)) H) ∨ (rCatA K x y H Q ∨ rCat x y H Q))
theorem op_addA {X : Cx} : OpR X (binaryOp .Add) (rAdd X.K) := op_or op_add (op_or op_add_str (op_or op_catA op_cat))
theorem ok_add {C : Ctx} {K : PySem.W.Frag} : OpOk C (rAdd K) kAdd := by
  intro G H σ env p v w d e z Q L rv rw ek q
  unfold kAdd at ek
  split at ek
  · cases ek
    rw [rv.int, rw.int]
    exact .inl ⟨_, _, rfl, rfl, q _ G H (Alc.refl L.sub) (.int _)⟩
  · split at ek
    · rename_i c
      cases ek
      rw [rv.str, rw.str]
      exact .inr (.inl ⟨_, _, rfl, rfl, c, q _ G H (Alc.refl L.sub) (.str _)⟩)
    · cases ek
  · split at ek
    · rename_i xs ys c
      cases ek
      obtain ⟨a, vs, rfl, ha, ra⟩ := rv.tup
      obtain ⟨b, ws, rfl, hb, rb⟩ := rw.tup
      refine .inr (.inr (.inl ⟨a, b, vs, ws, rfl, rfl, SqT.of (L.sub _ _ ha), SqT.of (L.sub _ _ hb), by rw [ra.length, rb.length]; exact c, fun h0 => ?_, fun _ h0 => ?_, fun _ _ pn hp => ?_⟩))
      · subst h0
        cases ra
        exact q _ G H (Alc.refl L.sub) (.tup hb rb)
      · subst h0
        cases rb
        refine q _ G H (Alc.refl L.sub) (.tup ha ?_)
        rw [List.append_nil]
        exact ra
      · have al : Alc G H (upd G pn (.tup (vs ++ ws))) (upd H pn (.tup (vs ++ ws))) := Alc.put L.sub hp
        exact q _ _ _ al (.tup upd_same ((ra.append rb).mono al.gro))
    · cases ek
  · split at ek
    · rename_i xs ys c
      cases ek
      obtain ⟨a, vs, rfl, ha, ra⟩ := rv.lst L
      obtain ⟨b, ws, rfl, hb, rb⟩ := rw.lst L
      refine .inr (.inr (.inr ⟨a, b, vs, ws, rfl, rfl, ha, hb, by rw [ra.length, rb.length]; exact c, fun pn hp => ?_⟩))
      have al : Alc G H (upd G pn (.lst (vs ++ ws))) (upd H pn (.lst (vs ++ ws))) := Alc.put L.sub hp
      exact q _ _ _ al (.lst upd_same ((ra.append rb).mono al.gro))
    · cases ek
  · cases ek
/-- lists joined, the new list one's own -/
def kCat : D → D → Option (List D)
  | .lst xs, .lst ys => if xs.length + ys.length ≤ sizeLine then some (xs ++ ys) else none
  | _, _ => none
theorem ok_cat {C : Ctx} : FOpOk C rCat kCat := by
  intro G H σ env p v w d e z Q L rv rw ek q
  unfold kCat at ek
  split at ek
  · split at ek
    · rename_i xs ys c
      cases ek
      obtain ⟨a, vs, rfl, ha, ra⟩ := rv.lst L
      obtain ⟨b, ws, rfl, hb, rb⟩ := rw.lst L
      exact ⟨a, b, vs, ws, rfl, rfl, ha, hb, by rw [ra.length, rb.length]; exact c, fun pn hp => q pn _ hp (ra.append rb)⟩
    · cases ek
  · cases ek
theorem tuple_mulW1 (l : Addr) (items : Array Value) (n : Nat) (dd : Option Addr) (sl : Array (Option Value)) (x : Int) (u : Tok) (c0 : (decide (x < -(2 ^ 63)) || decide (x ≥ 2 ^ 63)) = false) (c1 : (items.isEmpty || x == 1) = true) :
    Meets (Builtin.«tuple.__mul__» ⟨[.ref l, .int x u], []⟩) (fun _ R s => s.heap.get? l = some { cls := .type "tuple", dict := dd, data := .seq items n, slots := sl } ∧ R (.ok (.ret (Value.ref l))) s) :=
  .of_wp fun prog w A R s h => by
    obtain ⟨hp, g, d, tk, os⟩ := s
    obtain ⟨hl, h⟩ := h
    have f1 := AutoSeq1.idx_int
    wp_walk using wpAny_loadPart' hl
    repeat (first
      | (refine wpAny_ite_false (decide_eq_false (by rw [c0]; exact Bool.false_ne_true)) ?_; wp_walk using wpAny_loadPart' hl)
      | (refine wpAny_ite_true (decide_eq_true c1) ?_; wp_walk using wpAny_loadPart' hl))
    exact ⟨_, rfl, h⟩
/-- t * 1 is t itself -/
def rRepT1 (K : PySem.W.Frag) : R2 := fun x y H Q => ∃ l xs, x = .ref l ∧ y = .int 1 ∧ SqT K H l xs ∧ Q (.ref l) H
theorem op_repT1 {X : Cx} : OpR X (binaryOp .Mult) (rRepT1 X.K) := by
  intro pins s σ H x y v u Q I rx ry h
  obtain ⟨l, xs, rfl, rfl, hT, q⟩ := h
  have rx0 := rx
  cases rx
  obtain ⟨t, rfl⟩ := ry
  obtain ⟨its, r, ⟨⟨cls, dd, data, sl⟩, ho, hc, n, hd⟩, hs⟩ := I.tuple hT
  simp only at hc hd
  subst hc hd
  refine wpAny_binaryOp_repeat_ref (T := "tuple") (U := "int") (by decide) ⟨_, ho, rfl⟩ (fun s' => typeIs_int s' 1 t) noFill_tuple_mul F.fills_int_mul F.slot_int_rmul repeat_tuple F.slot_int_index.lookup
    (call_meets F.slot_int_rmul (typeIs_int s 1 t) F.entry_int_rmul (F.args_int_rmul_2 _ _) (int_rmul_tuple 1 t l its.toArray n dd sl)
      ⟨ho, rfl, ⟨_, ho, rfl⟩, call_meets F.slot_tuple_mul ⟨_, ho, rfl⟩ F.entry_tuple_mul (F.args_tuple_mul_2 _ _) (tuple_mulW1 l its.toArray n dd sl 1 t (by decide) (by simp)) ⟨ho, ?_⟩⟩)
  exact ⟨.ref l, H, I, rx0, q⟩
/-- products: ints, a tuple often -/
def kMul : D → D → Option D
  | .int i, .int j => kMulI i j
  | .tup xs, .int k => if k = 1 then some (.tup xs) else if xs ≠ [] ∧ 2 ≤ k ∧ k ≤ 1000 ∧ xs.length ≤ 1000 then some (.tup (List.replicate k.toNat xs).flatten) else none
  | _, _ => none
def rMul (K : PySem.W.Frag) : R2 := fun x y H Q => rI cMul (fun i j => .int (i * j)) x y H Q ∨ rRepT K x y H Q ∨ rRepT1 K x y H Q
theorem op_mulAny {X : Cx} : OpR X (binaryOp .Mult) (rMul X.K) := op_or op_mulA (op_or op_repT op_repT1)
theorem ok_mul {C : Ctx} {K : PySem.W.Frag} : OpOk C (rMul K) kMul := by
  intro G H σ env p v w d e z Q L rv rw ek q
  unfold kMul at ek
  split at ek
  · exact .inl (ok_mulI G H σ env p v w _ _ z Q L rv rw ek q)
  · split at ek
    · rename_i xs k c
      subst c
      cases ek
      obtain ⟨a, vs, rfl, ha, ra⟩ := rv.tup
      rw [rw.int]
      exact .inr (.inr ⟨a, vs, rfl, rfl, SqT.of (L.sub _ _ ha), q _ G H (Alc.refl L.sub) (.tup ha ra)⟩)
    split at ek
    · rename_i xs k _ c
      cases ek
      obtain ⟨a, vs, rfl, ha, ra⟩ := rv.tup
      rw [rw.int]
      refine .inr (.inl ⟨a, k, vs, rfl, rfl, SqT.of (L.sub _ _ ha), fun h0 => c.1 ?_, c.2.1, c.2.2.1, by rw [ra.length]; exact c.2.2.2, fun pn hp => ?_⟩)
      · subst h0
        cases ra
        rfl
      · have al : Alc G H (upd G pn (.tup (List.replicate k.toNat vs).flatten)) (upd H pn (.tup (List.replicate k.toNat vs).flatten)) := Alc.put L.sub hp
        exact q _ _ _ al (.tup upd_same ((ra.flat _).mono al.gro))
    · cases ek
  · cases ek
/-- a list often, the new list one's own -/
def kRep : D → D → Option (List D)
  | .lst xs, .int k => if -(2 ^ 63) ≤ k ∧ k < 2 ^ 63 ∧ xs.length * k.toNat ≤ sizeLine then some (List.replicate k.toNat xs).flatten else none
  | _, _ => none
theorem ok_rep {C : Ctx} : FOpOk C rRep kRep := by
  intro G H σ env p v w d e z Q L rv rw ek q
  unfold kRep at ek
  split at ek
  · split at ek
    · rename_i xs k c
      cases ek
      obtain ⟨a, vs, rfl, ha, ra⟩ := rv.lst L
      rw [rw.int]
      exact ⟨a, k, vs, rfl, rfl, ha, c.1, c.2.1, by rw [ra.length]; exact c.2.2, fun pn hp => q pn _ hp (ra.flat _)⟩
    · cases ek
  · cases ek

section
variable {X : Cx} {C : Ctx} {W : WX} {a b : Expr} {ma mb : EM} {pos : Pos}
theorem pm_add (ha : PE X a (rB C W ma)) (hb : PE X b (rB C W mb)) : PE X (.BinOp a .Add b pos) (rE C W (mOp kAdd ma mb)) := pm_op ok_add op_addA ha hb
theorem pm_sub (ha : PE X a (rB C W ma)) (hb : PE X b (rB C W mb)) : PE X (.BinOp a .Sub b pos) (rE C W (mOp kSub ma mb)) := pm_op ok_sub op_sub ha hb
theorem pm_mul (ha : PE X a (rB C W ma)) (hb : PE X b (rB C W mb)) : PE X (.BinOp a .Mult b pos) (rE C W (mOp kMul ma mb)) := pm_op ok_mul op_mulAny ha hb
theorem pm_div (ha : PE X a (rB C W ma)) (hb : PE X b (rB C W mb)) : PE X (.BinOp a .FloorDiv b pos) (rE C W (mOp kDiv ma mb)) := pm_op ok_div op_divA ha hb
theorem pm_mod (ha : PE X a (rB C W ma)) (hb : PE X b (rB C W mb)) : PE X (.BinOp a .Mod b pos) (rE C W (mOp kMod ma mb)) := pm_op ok_mod op_modN ha hb
theorem pm_pow (ha : PE X a (rB C W ma)) (hb : PE X b (rB C W mb)) : PE X (.BinOp a .Pow b pos) (rE C W (mOp kPow ma mb)) := pm_op ok_pow op_pow ha hb
theorem pm_cat (ha : PE X a (rB C W ma)) (hb : PE X b (rB C W mb)) : PE X (.BinOp a .Add b pos) (rF C W (mFOp kCat ma mb)) := pm_fop ok_cat op_cat ha hb
theorem pm_rep (ha : PE X a (rB C W ma)) (hb : PE X b (rB C W mb)) : PE X (.BinOp a .Mult b pos) (rF C W (mFOp kRep ma mb)) := pm_fop ok_rep op_rep ha hb
theorem pm_lt (ha : PE X a (rB C W ma)) (hb : PE X b (rB C W mb)) : PE X (.Compare a [.Lt] [b] pos) (rE C W (mOp kLt ma mb)) := pm_cmp ok_lt op_lt ha hb (nomark _)
theorem pm_le (ha : PE X a (rB C W ma)) (hb : PE X b (rB C W mb)) : PE X (.Compare a [.LtE] [b] pos) (rE C W (mOp kLe ma mb)) := pm_cmp ok_le op_le ha hb (nomark _)
theorem pm_gt (ha : PE X a (rB C W ma)) (hb : PE X b (rB C W mb)) : PE X (.Compare a [.Gt] [b] pos) (rE C W (mOp kGt ma mb)) := pm_cmp ok_gt op_gt ha hb (nomark _)
theorem pm_ge (ha : PE X a (rB C W ma)) (hb : PE X b (rB C W mb)) : PE X (.Compare a [.GtE] [b] pos) (rE C W (mOp kGe ma mb)) := pm_cmp ok_ge op_ge ha hb (nomark _)
theorem tm_lt (ha : PE X a (rB C W ma)) (hb : PE X b (rB C W mb)) : PT X (.Compare a [.Lt] [b] pos) (rT C W (mT (mOp kLt ma mb))) := tm_cmp ok_lt op_lt ha hb (nomark _)
theorem tm_le (ha : PE X a (rB C W ma)) (hb : PE X b (rB C W mb)) : PT X (.Compare a [.LtE] [b] pos) (rT C W (mT (mOp kLe ma mb))) := tm_cmp ok_le op_le ha hb (nomark _)
theorem tm_gt (ha : PE X a (rB C W ma)) (hb : PE X b (rB C W mb)) : PT X (.Compare a [.Gt] [b] pos) (rT C W (mT (mOp kGt ma mb))) := tm_cmp ok_gt op_gt ha hb (nomark _)
theorem tm_ge (ha : PE X a (rB C W ma)) (hb : PE X b (rB C W mb)) : PT X (.Compare a [.GtE] [b] pos) (rT C W (mT (mOp kGe ma mb))) := tm_cmp ok_ge op_ge ha hb (nomark _)
end
end Pu
end

section
set_option maxHeartbeats 2000000
namespace Pu
open PySem PySem.Spec PyProof.Rows L2

/-! ### data as the library's data -/
mutual
def D.py : D → PyData
  | .non => .none
  | .bl b => .bool b
  | .int i => .int i
  | .str x => .str x
  | .tup xs => .tuple (D.pys xs)
  | .lst xs => .list (D.pys xs)
  | .dct _ => .dict []
  | .obj _ _ => .dict []
  | .pen => .dict []
  | .fn _ => .dict []
  | .ty _ => .dict []
  | .exc _ _ => .dict []
  | .scr _ => .dict []
  | .clo => .dict []
  | .lam _ => .dict []
def D.pys : List D → List PyData
  | [] => []
  | x :: xs => x.py :: D.pys xs
end
theorem D.pys_map : ∀ ds : List D, D.pys ds = ds.map D.py
  | [] => by simp [D.pys]
  | d :: ds => by simp [D.pys, D.pys_map ds]
mutual
theorem Rep.dp {K : PySem.W.Frag} {C : Ctx} {G H : Hp} (s : Sub G H) : ∀ {v : V} {d : D}, Rep C G v d → d.py.canLay0 = true → Dp K H v d.py
  | _, _, .non, _ => by simp only [D.py]; exact .non
  | _, _, .bl b, _ => by simp only [D.py]; exact .bl b
  | _, _, .int i, _ => by simp only [D.py]; exact .int i
  | _, _, .str x, _ => by simp only [D.py]; exact .str x
  | _, _, .tup h r, c => by
    simp only [D.py] at c ⊢
    exact .tup (SqT.of (s _ _ h)) (Reps.dp s r (by simpa only [PyData.canLay0] using c))
  | _, _, .lst h r, c => by
    simp only [D.py] at c ⊢
    exact .lst (SqL.of (s _ _ h)) (Reps.dp s r (by simpa only [PyData.canLay0] using c))
  | _, _, .dct h r, c => by simp [D.py, PyData.canLay0] at c
  | _, _, .obj m h r, c => by simp [D.py, PyData.canLay0] at c
  | _, _, .pen h, c => by simp [D.py, PyData.canLay0] at c
  | _, _, .fn h, c => by simp [D.py, PyData.canLay0] at c
  | _, _, .ty n, c => by simp [D.py, PyData.canLay0] at c
  | _, _, .scr h, c => by simp [D.py, PyData.canLay0] at c
  | _, _, .clo h s0, c => by simp [D.py, PyData.canLay0] at c
  | _, _, .lam _ _ _, c => by simp [D.py, PyData.canLay0] at c
  | _, _, .exc0 h m, c => by simp [D.py, PyData.canLay0] at c
  | _, _, .exc1 h m g r, c => by simp [D.py, PyData.canLay0] at c
theorem Reps.dp {K : PySem.W.Frag} {C : Ctx} {G H : Hp} (s : Sub G H) : ∀ {vs : List V} {ds : List D}, Reps C G vs ds → PyData.canLayAll0 (D.pys ds) = true → DpAll K H vs (D.pys ds)
  | _, _, .nil, _ => by simp only [D.pys]; exact .nil
  | _, _, .cons h t, c => by
    simp only [D.pys, PyData.canLayAll0, Bool.and_eq_true] at c ⊢
    exact .cons (Rep.dp s h c.1) (Reps.dp s t c.2)
end
theorem BRep.dp {K : PySem.W.Frag} {C : Ctx} {G H : Hp} {σ : St} {env : Env} {p : Pen} {v : V} {d : D} (h : BRep C G σ env v d) (L : LOk C G H σ env p) (c : d.py.canLay0 = true) : Dp K H v d.py := by
  rcases h with h | ⟨i, ds, a, e1, e2, e3, e4⟩
  · exact h.dp L.sub c
  · subst e2
    obtain ⟨b, vs, h1, h2, _, h4⟩ := L.own e4
    rw [e3] at h1
    cases h1
    subst e1
    simp only [D.py] at c ⊢
    exact .lst (SqL.of h2) (h4.dp L.sub (by simpa only [PyData.canLay0] using c))

/-! ### ==, != -/
def kEq (d e : D) : Option D := if SeqAt.shaped d.py = true ∧ SeqAt.shaped e.py = true then some (.bl (PyData.eqv d.py e.py)) else none
def kNe (d e : D) : Option D := if SeqAt.shaped d.py = true ∧ SeqAt.shaped e.py = true then some (.bl (!PyData.eqv d.py e.py)) else none
theorem ok_eq {C : Ctx} {K : PySem.W.Frag} : OpOk C (rEqD K) kEq := by
  intro G H σ env p v w d e z Q L rv rw ek q
  unfold kEq at ek
  split at ek
  · rename_i c
    cases ek
    exact ⟨_, _, rv.dp L (SeqAt.canLay_of_shaped c.1), rw.dp L (SeqAt.canLay_of_shaped c.2), c.1, c.2, q _ G H (Alc.refl L.sub) (.bl _)⟩
  · cases ek
theorem ok_ne {C : Ctx} {K : PySem.W.Frag} : OpOk C (rNeD K) kNe := by
  intro G H σ env p v w d e z Q L rv rw ek q
  unfold kNe at ek
  split at ek
  · rename_i c
    cases ek
    exact ⟨_, _, rv.dp L (SeqAt.canLay_of_shaped c.1), rw.dp L (SeqAt.canLay_of_shaped c.2), c.1, c.2, q _ G H (Alc.refl L.sub) (.bl _)⟩
  · cases ek

/-! ### in -/
def D.flat : D → Bool
  | .non => true
  | .bl _ => true
  | .int _ => true
  | .str _ => true
  | _ => false
theorem flat_rep {C : Ctx} {G : Hp} {v : V} {d : D} (h : Rep C G v d) (f : d.flat = true) : flatV v = true := by
  cases h <;> first
    | rfl
    | cases f
theorem flat_eqV {C : Ctx} {G : Hp} {v w : V} {d e : D} (h : Rep C G v d) (h2 : Rep C G w e) (f : d.flat = true) (f2 : e.flat = true) : eqV v w = PyData.eqv d.py e.py := by
  cases h <;> cases h2 <;> first
    | rfl
    | cases f
    | cases f2
    | (simp [eqV, D.py, PyData.eqv])
theorem flat_all {C : Ctx} {G : Hp} : ∀ {vs : List V} {ds : List D}, Reps C G vs ds → ds.all D.flat = true → vs.all flatV = true
  | _, _, .nil, _ => rfl
  | _, _, .cons h t, f => by
    rw [List.all_cons, Bool.and_eq_true] at f ⊢
    exact ⟨flat_rep h f.1, flat_all t f.2⟩
theorem flat_in {C : Ctx} {G : Hp} {v : V} {d : D} (h : Rep C G v d) (f : d.flat = true) : ∀ {vs : List V} {ds : List D}, Reps C G vs ds → ds.all D.flat = true → inV v vs = ds.any fun y => PyData.eqv y.py d.py
  | _, _, .nil, _ => rfl
  | _, _, .cons h2 t, f2 => by
    rw [List.all_cons, Bool.and_eq_true] at f2
    have ih := flat_in h f t f2.2
    unfold inV at ih ⊢
    rw [List.any_cons, List.any_cons, flat_eqV h2 h f2.1 f, ih]
def D.items : D → Option (List D)
  | .lst xs => some xs
  | .tup xs => some xs
  | _ => none
theorem D.items_or {d : D} {ds : List D} (h : d.items = some ds) : d = .lst ds ∨ d = .tup ds := by
  cases d <;> first
    | (cases h; exact .inl rfl)
    | (cases h; exact .inr rfl)
    | cases h
def kIn (d e : D) : Option D := match e.items with
  | some es => if d.flat = true ∧ es.all D.flat = true then some (.bl (es.any fun y => PyData.eqv y.py d.py)) else none
  | none => none
def kNotIn (d e : D) : Option D := match e.items with
  | some es => if d.flat = true ∧ es.all D.flat = true then some (.bl (!es.any fun y => PyData.eqv y.py d.py)) else none
  | none => none
theorem BRep.flat {C : Ctx} {G : Hp} {σ : St} {env : Env} {v : V} {d : D} (h : BRep C G σ env v d) (f : d.flat = true) : Rep C G v d := by
  rcases h with h | ⟨_, _, _, _, e2, _⟩
  · exact h
  · subst e2
    cases f
theorem ok_in {C : Ctx} {K : PySem.W.Frag} : OpOk C (rIn K false) kIn := by
  intro G H σ env p v w d e z Q L rv rw ek q
  unfold kIn at ek
  split at ek
  · rename_i es hes
    split at ek
    · rename_i c
      cases ek
      obtain ⟨a, vs, rfl, hH, rs⟩ := rw.seq L (D.items_or hes)
      refine ⟨a, vs, rfl, hH.elim (fun h => .inl (SqL.of h)) (fun h => .inr (SqT.of h)), flat_rep (rv.flat c.1) c.1, flat_all rs c.2, ?_⟩
      rw [flat_in (rv.flat c.1) c.1 rs c.2]
      exact q _ G H (Alc.refl L.sub) (.bl _)
    · cases ek
  · cases ek
theorem ok_notIn {C : Ctx} {K : PySem.W.Frag} : OpOk C (rIn K true) kNotIn := by
  intro G H σ env p v w d e z Q L rv rw ek q
  unfold kNotIn at ek
  split at ek
  · rename_i es hes
    split at ek
    · rename_i c
      cases ek
      obtain ⟨a, vs, rfl, hH, rs⟩ := rw.seq L (D.items_or hes)
      refine ⟨a, vs, rfl, hH.elim (fun h => .inl (SqL.of h)) (fun h => .inr (SqT.of h)), flat_rep (rv.flat c.1) c.1, flat_all rs c.2, ?_⟩
      rw [flat_in (rv.flat c.1) c.1 rs c.2]
      exact q _ G H (Alc.refl L.sub) (.bl _)
    · cases ek
  · cases ek
/-- in a list of data of any depth -/
def kInD (d e : D) : Option D := match e with
  | .lst es => if SeqAt.shaped d.py = true ∧ SeqAt.shaped (D.lst es).py = true then some (.bl (es.any fun y => PyData.eqv y.py d.py)) else none
  | _ => none
def kNotInD (d e : D) : Option D := match e with
  | .lst es => if SeqAt.shaped d.py = true ∧ SeqAt.shaped (D.lst es).py = true then some (.bl (!es.any fun y => PyData.eqv y.py d.py)) else none
  | _ => none
theorem pys_any (es : List D) (d : D) : ((D.pys es).any fun z => PyData.eqv z d.py) = es.any fun y => PyData.eqv y.py d.py := by
  rw [D.pys_map, List.any_map]
  rfl
theorem ok_inD {C : Ctx} {K : PySem.W.Frag} : OpOk C (rInD K) kInD := by
  intro G H σ env p v w d e z Q L rv rw ek q
  unfold kInD at ek
  split at ek
  · rename_i es
    split at ek
    · rename_i c
      cases ek
      have h2 := rw.dp (K := K) L (SeqAt.canLay_of_shaped c.2)
      have c2 := c.2
      simp only [D.py] at h2 c2
      refine ⟨_, _, rv.dp L (SeqAt.canLay_of_shaped c.1), h2, c.1, c2, ?_⟩
      rw [pys_any]
      exact q _ G H (Alc.refl L.sub) (.bl _)
    · cases ek
  · cases ek
theorem ok_notInD {C : Ctx} {K : PySem.W.Frag} : OpOk C (rNotInD K) kNotInD := by
  intro G H σ env p v w d e z Q L rv rw ek q
  unfold kNotInD at ek
  split at ek
  · rename_i es
    split at ek
    · rename_i c
      cases ek
      have h2 := rw.dp (K := K) L (SeqAt.canLay_of_shaped c.2)
      have c2 := c.2
      simp only [D.py] at h2 c2
      refine ⟨_, _, rv.dp L (SeqAt.canLay_of_shaped c.1), h2, c.1, c2, ?_⟩
      rw [pys_any]
      exact q _ G H (Alc.refl L.sub) (.bl _)
    · cases ek
  · cases ek

/-! ### is None, is True, is False -/
def D.isN : D → Bool
  | .non => true
  | _ => false
def D.isB (b : Bool) : D → Bool
  | .bl c => c == b
  | _ => false
theorem BRep.isN {C : Ctx} {G : Hp} {σ : St} {env : Env} {v : V} {d : D} (h : BRep C G σ env v d) : decide (v = .non) = d.isN := by
  rcases h with h | ⟨_, _, _, e1, e2, _⟩
  · cases h <;> rfl
  · subst e1 e2
    rfl
theorem BRep.isB {C : Ctx} {G : Hp} {σ : St} {env : Env} {v : V} {d : D} (b : Bool) (h : BRep C G σ env v d) : decide (v = .bl b) = d.isB b := by
  rcases h with h | ⟨_, _, _, e1, e2, _⟩
  · cases h <;> first
      | rfl
      | (rename_i c; cases c <;> cases b <;> rfl)
  · subst e1 e2
    rfl
/-- y is a written None, True or False -/
def kIs (d e : D) : Option D := match e with
  | .non => some (.bl d.isN)
  | .bl b => some (.bl (d.isB b))
  | _ => none
def kIsNot (d e : D) : Option D := match e with
  | .non => some (.bl (!d.isN))
  | .bl b => some (.bl (!d.isB b))
  | _ => none
def rIsA : R2 := fun x y H Q => (y = .non ∧ Q (.bl (decide (x = .non))) H) ∨ ∃ b, y = .bl b ∧ Q (.bl (decide (x = .bl b))) H
def rIsNotA : R2 := fun x y H Q => (y = .non ∧ Q (.bl (!decide (x = .non))) H) ∨ ∃ b, y = .bl b ∧ Q (.bl (!decide (x = .bl b))) H
theorem relV_bool {x : V} {v : Value} {b : Bool} (r : RelV x v) : (v == Value.bool b) = decide (x = .bl b) ∧ plainIs v (.bool b) = true := by
  cases x with
  | bl c =>
    cases r
    exact ⟨by cases b <;> cases c <;> rfl, rfl⟩
  | int _ =>
    obtain ⟨t, rfl⟩ := r
    exact ⟨rfl, rfl⟩
  | str _ =>
    obtain ⟨t, rfl⟩ := r
    exact ⟨rfl, rfl⟩
  | byt _ =>
    obtain ⟨t, rfl⟩ := r
    exact ⟨rfl, rfl⟩
  | flt _ =>
    obtain ⟨t, rfl⟩ := r
    exact ⟨rfl, rfl⟩
  | _ =>
    cases r
    exact ⟨rfl, rfl⟩
theorem op_isA {X : Cx} : OpR X (compareOp .Is) rIsA := by
  intro pins s σ H x y v u Q I rx ry h
  rcases h with h | ⟨b, rfl, q⟩
  · exact op_isN pins s σ H x y v u Q I rx ry h
  · cases (show u = Value.bool b from ry)
    obtain ⟨e1, e2⟩ := relV_bool (b := b) rx
    exact wpAny_is_plain e2 ⟨.bl _, H, I, by rw [e1]; rfl, q⟩
theorem op_isNotA {X : Cx} : OpR X (compareOp .IsNot) rIsNotA := by
  intro pins s σ H x y v u Q I rx ry h
  rcases h with h | ⟨b, rfl, q⟩
  · exact op_notN pins s σ H x y v u Q I rx ry h
  · cases (show u = Value.bool b from ry)
    obtain ⟨e1, e2⟩ := relV_bool (b := b) rx
    exact wpAny_isNot_plain e2 ⟨.bl _, H, I, by rw [e1]; rfl, q⟩
theorem ok_is {C : Ctx} : OpOk C rIsA kIs := by
  intro G H σ env p v w d e z Q L rv rw ek q
  unfold kIs at ek
  split at ek
  · cases ek
    refine .inl ⟨rw.non, ?_⟩
    rw [rv.isN]
    exact q _ G H (Alc.refl L.sub) (.bl _)
  · cases ek
    refine .inr ⟨_, rw.bl, ?_⟩
    rw [rv.isB]
    exact q _ G H (Alc.refl L.sub) (.bl _)
  · cases ek
theorem ok_isNot {C : Ctx} : OpOk C rIsNotA kIsNot := by
  intro G H σ env p v w d e z Q L rv rw ek q
  unfold kIsNot at ek
  split at ek
  · cases ek
    refine .inl ⟨rw.non, ?_⟩
    rw [rv.isN]
    exact q _ G H (Alc.refl L.sub) (.bl _)
  · cases ek
    refine .inr ⟨_, rw.bl, ?_⟩
    rw [rv.isB]
    exact q _ G H (Alc.refl L.sub) (.bl _)
  · cases ek

section
variable {X : Cx} {C : Ctx} {W : WX} {a b : Expr} {ma mb : EM} {pos : Pos}
theorem pm_eq (hu : X.A.units + 64 < cLine) (ha : PE X a (rB C W ma)) (hb : PE X b (rB C W mb)) : PE X (.Compare a [.Eq] [b] pos) (rE C W (mOp kEq ma mb)) := pm_cmp ok_eq (op_eqD hu) ha hb (nomark _)
theorem pm_ne (hu : X.A.units + 64 < cLine) (ha : PE X a (rB C W ma)) (hb : PE X b (rB C W mb)) : PE X (.Compare a [.NotEq] [b] pos) (rE C W (mOp kNe ma mb)) := pm_cmp ok_ne (op_neD hu) ha hb (nomark _)
theorem tm_eq (hu : X.A.units + 64 < cLine) (ha : PE X a (rB C W ma)) (hb : PE X b (rB C W mb)) : PT X (.Compare a [.Eq] [b] pos) (rT C W (mT (mOp kEq ma mb))) := tm_cmp ok_eq (op_eqD hu) ha hb (nomark _)
theorem tm_ne (hu : X.A.units + 64 < cLine) (ha : PE X a (rB C W ma)) (hb : PE X b (rB C W mb)) : PT X (.Compare a [.NotEq] [b] pos) (rT C W (mT (mOp kNe ma mb))) := tm_cmp ok_ne (op_neD hu) ha hb (nomark _)
theorem pm_in (ha : PE X a (rB C W ma)) (hb : PE X b (rB C W mb)) (hm : behindInMarks .In b = false := by rfl) : PE X (.Compare a [.In] [b] pos) (rE C W (mOp kIn ma mb)) := pm_cmp ok_in op_in_seq ha hb hm
theorem pm_notIn (ha : PE X a (rB C W ma)) (hb : PE X b (rB C W mb)) (hm : behindInMarks .NotIn b = false := by rfl) : PE X (.Compare a [.NotIn] [b] pos) (rE C W (mOp kNotIn ma mb)) := pm_cmp ok_notIn op_notIn_seq ha hb hm
theorem tm_in (ha : PE X a (rB C W ma)) (hb : PE X b (rB C W mb)) (hm : behindInMarks .In b = false := by rfl) : PT X (.Compare a [.In] [b] pos) (rT C W (mT (mOp kIn ma mb))) := tm_cmp ok_in op_in_seq ha hb hm
theorem tm_notIn (ha : PE X a (rB C W ma)) (hb : PE X b (rB C W mb)) (hm : behindInMarks .NotIn b = false := by rfl) : PT X (.Compare a [.NotIn] [b] pos) (rT C W (mT (mOp kNotIn ma mb))) := tm_cmp ok_notIn op_notIn_seq ha hb hm
theorem pm_inD (hu : X.A.units + 65 < cLine) (ha : PE X a (rB C W ma)) (hb : PE X b (rB C W mb)) (hm : behindInMarks .In b = false := by rfl) : PE X (.Compare a [.In] [b] pos) (rE C W (mOp kInD ma mb)) := pm_cmp ok_inD (op_inD hu) ha hb hm
theorem pm_notInD (hu : X.A.units + 65 < cLine) (ha : PE X a (rB C W ma)) (hb : PE X b (rB C W mb)) (hm : behindInMarks .NotIn b = false := by rfl) : PE X (.Compare a [.NotIn] [b] pos) (rE C W (mOp kNotInD ma mb)) := pm_cmp ok_notInD (op_notInD hu) ha hb hm
theorem tm_inD (hu : X.A.units + 65 < cLine) (ha : PE X a (rB C W ma)) (hb : PE X b (rB C W mb)) (hm : behindInMarks .In b = false := by rfl) : PT X (.Compare a [.In] [b] pos) (rT C W (mT (mOp kInD ma mb))) := tm_cmp ok_inD (op_inD hu) ha hb hm
theorem tm_notInD (hu : X.A.units + 65 < cLine) (ha : PE X a (rB C W ma)) (hb : PE X b (rB C W mb)) (hm : behindInMarks .NotIn b = false := by rfl) : PT X (.Compare a [.NotIn] [b] pos) (rT C W (mT (mOp kNotInD ma mb))) := tm_cmp ok_notInD (op_notInD hu) ha hb hm
theorem pm_is (ha : PE X a (rB C W ma)) (hb : PE X b (rB C W mb)) : PE X (.Compare a [.Is] [b] pos) (rE C W (mOp kIs ma mb)) := pm_cmp ok_is op_isA ha hb (nomark _)
theorem pm_isNot (ha : PE X a (rB C W ma)) (hb : PE X b (rB C W mb)) : PE X (.Compare a [.IsNot] [b] pos) (rE C W (mOp kIsNot ma mb)) := pm_cmp ok_isNot op_isNotA ha hb (nomark _)
theorem tm_is (ha : PE X a (rB C W ma)) (hb : PE X b (rB C W mb)) : PT X (.Compare a [.Is] [b] pos) (rT C W (mT (mOp kIs ma mb))) := tm_cmp ok_is op_isA ha hb (nomark _)
theorem tm_isNot (ha : PE X a (rB C W ma)) (hb : PE X b (rB C W mb)) : PT X (.Compare a [.IsNot] [b] pos) (rT C W (mT (mOp kIsNot ma mb))) := tm_cmp ok_isNot op_isNotA ha hb (nomark _)
end
end Pu
end

section
set_option maxHeartbeats 2000000
namespace Pu
open PySem PySem.Spec PyProof.Rows L2

/-! ### and, or, not, if-expressions, chains -/
def mTAnd (a b : TM) : TM := fun env p => (a env p).bind fun c q => if c = true then b env q else .ok false q
def mTOr (a b : TM) : TM := fun env p => (a env p).bind fun c q => if c = true then .ok true q else b env q
def mTNot (a : TM) : TM := fun env p => (a env p).bind fun c q => .ok (!c) q
/-- a test as a value -/
def mV (a : TM) : EM := fun env p => (a env p).bind fun c q => .ok (.bl c) q
def mIf (t : TM) (a b : EM) : EM := fun env p => (t env p).bind fun c q => if c = true then a env q else b env q
section
variable {X : Cx} {C : Ctx} {W : WX} {a b c : Expr} {rest : List Expr} {ta tb : TM} {ma mb mc : EM} {pos : Pos}
theorem rd_and {t2 : TT} (h2 : ∀ σ H Q, rT C W tb σ H Q → t2 σ H Q) {σ : St} {H : Hp} {Q : Bool → Hp → Prop} (h : rT C W (mTAnd ta tb) σ H Q) : tAnd (rT C W ta) t2 σ H Q := by
  obtain ⟨G, env, p, L, o⟩ := h
  refine ⟨G, env, p, L, o.bind.imp (fun d q z G1 H1 x1 y1 => ?_) fun _ _ z => z⟩
  cases d with
  | true =>
    rw [if_pos rfl]
    rw [if_pos rfl] at z
    exact h2 _ _ _ ⟨G1, env, q, L.step x1 y1, z.imp (fun b q2 z2 G2 H2 x2 y2 => z2 G2 H2 (x1.trans x2) y2) fun _ _ z => z.step x1⟩
  | false =>
    rw [if_neg Bool.false_ne_true]
    rw [if_neg Bool.false_ne_true] at z
    exact z G1 H1 x1 y1
theorem rd_or {t2 : TT} (h2 : ∀ σ H Q, rT C W tb σ H Q → t2 σ H Q) {σ : St} {H : Hp} {Q : Bool → Hp → Prop} (h : rT C W (mTOr ta tb) σ H Q) : tOr (rT C W ta) t2 σ H Q := by
  obtain ⟨G, env, p, L, o⟩ := h
  refine ⟨G, env, p, L, o.bind.imp (fun d q z G1 H1 x1 y1 => ?_) fun _ _ z => z⟩
  cases d with
  | true =>
    rw [if_pos rfl]
    rw [if_pos rfl] at z
    exact z G1 H1 x1 y1
  | false =>
    rw [if_neg Bool.false_ne_true]
    rw [if_neg Bool.false_ne_true] at z
    exact h2 _ _ _ ⟨G1, env, q, L.step x1 y1, z.imp (fun b q2 z2 G2 H2 x2 y2 => z2 G2 H2 (x1.trans x2) y2) fun _ _ z => z.step x1⟩
theorem rd_not {σ : St} {H : Hp} {Q : Bool → Hp → Prop} (h : rT C W (mTNot ta) σ H Q) : tNot (rT C W ta) σ H Q := by
  obtain ⟨G, env, p, L, o⟩ := h
  exact ⟨G, env, p, L, o.bind.imp (fun d q z G1 H1 x1 y1 => z G1 H1 x1 y1) fun _ _ z => z⟩
theorem wm_and1 (h : PT X a (rT C W ta)) : PW X (.BoolOp .And [a] pos) (rT C W ta) := pw_and1 h
theorem wm_or1 (h : PT X a (rT C W ta)) : PW X (.BoolOp .Or [a] pos) (rT C W ta) := pw_or1 h
theorem wm_and (ha : PT X a (rT C W ta)) (hb : PW X (.BoolOp .And (b :: rest) pos) (rT C W tb)) : PW X (.BoolOp .And (a :: b :: rest) pos) (rT C W (mTAnd ta tb)) := (pw_and ha hb).of fun _ _ _ h => rd_and (fun _ _ _ z => z) h
theorem wm_or (ha : PT X a (rT C W ta)) (hb : PW X (.BoolOp .Or (b :: rest) pos) (rT C W tb)) : PW X (.BoolOp .Or (a :: b :: rest) pos) (rT C W (mTOr ta tb)) := (pw_or ha hb).of fun _ _ _ h => rd_or (fun _ _ _ z => z) h
theorem tm_not (ha : PT X a (rT C W ta)) : PT X (.UnaryOp .Not a pos) (rT C W (mTNot ta)) := (pt_not ha).of fun _ _ _ h => rd_not h
/-- the same as values: every part a bool -/
theorem vm_one {op} (h : PE X a (rE C W (mV ta))) : PE X (.BoolOp op [a] pos) (rE C W (mV ta)) := pe_one h
theorem rd_v {σ : St} {H : Hp} {Q : VK} (h : rE C W (mV ta) σ H Q) : rT C W ta σ H (fun b H' => Q (.bl b) H') := by
  obtain ⟨G, env, p, L, o⟩ := h
  exact ⟨G, env, p, L, o.bind.imp (fun d q z G1 H1 x1 y1 => z (.bl d) G1 H1 x1 y1 (.bl _)) fun _ _ z => z⟩
theorem vm_and (ha : PE X a (rE C W (mV ta))) (hb : PE X (.BoolOp .And (b :: rest) pos) (rE C W (mV tb))) : PE X (.BoolOp .And (a :: b :: rest) pos) (rE C W (mV (mTAnd ta tb))) := (pe_and ha hb).of fun σ H Q h => by
  obtain ⟨G, env, p, L, o⟩ := rd_v h
  refine ⟨G, env, p, L, OutP.mk (o.bind.imp (fun d q z v G1 H1 x1 y1 r1 => ?_) fun _ _ z => z)⟩
  cases r1
  refine ⟨d, rfl, ?_⟩
  cases d with
  | true =>
    rw [if_pos rfl]
    exact ⟨G1, env, q, L.step x1 y1, OutP.mk (OutP.imp z (fun d3 q3 z3 v G2 H2 x2 y2 r2 => by
      cases r2
      exact z3 G2 H2 (x1.trans x2) y2) fun _ _ z => z.step x1)⟩
  | false =>
    rw [if_neg Bool.false_ne_true]
    exact z G1 H1 x1 y1
theorem vm_or (ha : PE X a (rE C W (mV ta))) (hb : PE X (.BoolOp .Or (b :: rest) pos) (rE C W (mV tb))) : PE X (.BoolOp .Or (a :: b :: rest) pos) (rE C W (mV (mTOr ta tb))) := (pe_or ha hb).of fun σ H Q h => by
  obtain ⟨G, env, p, L, o⟩ := rd_v h
  refine ⟨G, env, p, L, OutP.mk (o.bind.imp (fun d q z v G1 H1 x1 y1 r1 => ?_) fun _ _ z => z)⟩
  cases r1
  refine ⟨d, rfl, ?_⟩
  cases d with
  | false =>
    rw [if_neg Bool.false_ne_true]
    exact ⟨G1, env, q, L.step x1 y1, OutP.mk (OutP.imp z (fun d3 q3 z3 v G2 H2 x2 y2 r2 => by
      cases r2
      exact z3 G2 H2 (x1.trans x2) y2) fun _ _ z => z.step x1)⟩
  | true =>
    rw [if_pos rfl]
    exact z G1 H1 x1 y1
theorem vm_not (ha : PE X a (rE C W (mV ta))) : PE X (.UnaryOp .Not a pos) (rE C W (mV (mTNot ta))) := (pe_not ha).of fun σ H Q h => by
  obtain ⟨G, env, p, L, o⟩ := rd_v h
  refine ⟨G, env, p, L, OutP.mk (o.bind.imp (fun d q z v G1 H1 x1 y1 r1 => ?_) fun _ _ z => z)⟩
  cases r1
  exact ⟨d, rfl, z G1 H1 x1 y1⟩
/-- a value that is a bool, as the value of a test -/
theorem vm {m : EM} (h : PE X a (rE C W m)) : PE X a (rE C W (mV (mT m))) := h.of fun σ H Q ⟨G, env, p, L, o⟩ => by
  refine ⟨G, env, p, L, o.bind.bind.imp (fun d q z v G1 H1 x1 y1 r1 => ?_) fun _ _ z => z⟩
  cases d with
  | bl b =>
    cases r1
    exact z (.bl b) G1 H1 x1 y1 (.bl _)
  | _ => exact z.elim
theorem pm_if {t : Expr} {mt : TM} (ht : PT X t (rT C W mt)) (ha : PE X a (rE C W ma)) (hb : PE X b (rE C W mb)) : PE X (.IfExp t a b pos) (rE C W (mIf mt ma mb)) := (pe_ifExp ht ha hb).of fun σ H Q ⟨G, env, p, L, o⟩ => by
  refine ⟨G, env, p, L, o.bind.imp (fun d q z G1 H1 x1 y1 => ?_) fun _ _ z => z⟩
  cases d with
  | true =>
    rw [if_pos rfl]
    rw [if_pos rfl] at z
    exact ⟨G1, env, q, L.step x1 y1, z.imp (fun d2 q2 z2 v G2 H2 x2 y2 r2 => z2 v G2 H2 (x1.trans x2) y2 r2) fun _ _ z => z.step x1⟩
  | false =>
    rw [if_neg Bool.false_ne_true]
    rw [if_neg Bool.false_ne_true] at z
    exact ⟨G1, env, q, L.step x1 y1, z.imp (fun d2 q2 z2 v G2 H2 x2 y2 r2 => z2 v G2 H2 (x1.trans x2) y2 r2) fun _ _ z => z.step x1⟩
/-- a < b < c -/
def mChain (k k' : D → D → Option D) (ma mb mc : EM) : EM := fun env p => (ma env p).bind fun d p1 => (mb env p1).bind fun e p2 => match k d e with
  | some (.bl true) => (mc env p2).bind fun f p3 => match k' e f with
    | some z => .ok z p3
    | none => .bad
  | some (.bl false) => .ok (.bl false) p2
  | _ => .bad
theorem rd_chain {r r' : R2} {k k' : D → D → Option D} (hk : OpOk C r k) (hk' : OpOk C r' k') {σ : St} {H : Hp} {Q : VK} (h : rE C W (mChain k k' ma mb mc) σ H Q) : tChain r r' (rB C W ma) (rB C W mb) (rB C W mc) σ H Q := by
  obtain ⟨G, env, p, L, o⟩ := h
  refine ⟨G, env, p, L, o.bind.imp (fun d q z v G1 H1 x1 y1 r1 => ?_) fun _ _ z => z⟩
  refine ⟨G1, env, q, L.step x1 y1, z.bind.imp (fun e q2 z2 w G2 H2 x2 y2 r2 => ?_) fun _ _ z => z.step x1⟩
  have L2 := (L.step x1 y1).step x2 y2
  have x12 := x1.trans x2
  split at z2
  · rename_i ek
    refine hk G2 H2 σ env q2 v w d e _ _ L2 (r1.mono x2.gro) r2 ek fun x G3 H3 al rx => ?_
    cases rx
    refine ⟨true, rfl, ?_⟩
    rw [if_pos rfl]
    have L3 := L2.alc al
    have x3 := x12.trans (L2.ext al)
    refine ⟨G3, env, q2, L3, z2.bind.imp (fun f q4 z4 u G4 H4 x4 y4 r4 => ?_) fun _ _ z => z.step x3⟩
    have L4 := L3.step x4 y4
    cases ek' : k' e f with
    | none =>
      rw [ek'] at z4
      exact z4.elim
    | some y =>
      rw [ek'] at z4
      exact hk' G4 H4 σ env q4 w u e f y Q L4 ((r2.mono al.gro).mono x4.gro) r4 ek' fun x G5 H5 al5 rx => z4 x G5 H5 ((x3.trans x4).trans (L4.ext al5)) (y4.alc al5) rx
  · rename_i ek
    refine hk G2 H2 σ env q2 v w d e _ _ L2 (r1.mono x2.gro) r2 ek fun x G3 H3 al rx => ?_
    cases rx
    refine ⟨false, rfl, ?_⟩
    rw [if_neg Bool.false_ne_true]
    exact z2 (.bl false) G3 H3 (x12.trans (L2.ext al)) (y2.alc al) (.bl _)
  · exact z2.elim
theorem pm_chain {op op' : CmpOp} {r r' : R2} {k k' : D → D → Option D} (hk : OpOk C r k) (hk' : OpOk C r' k') (ho : OpR X (compareOp op) r) (ho' : OpR X (compareOp op') r') (ha : PE X a (rB C W ma)) (hb : PE X b (rB C W mb)) (hc : PE X c (rB C W mc))
    (hm : lastMarks [op, op'] [b, c] = false := by with_unfolding_all rfl) : PE X (.Compare a [op, op'] [b, c] pos) (rE C W (mChain k k' ma mb mc)) := (pe_chain ho ho' ha hb hc hm).of fun _ _ _ h => rd_chain hk hk' h
theorem tm_chain {op op' : CmpOp} {r r' : R2} {k k' : D → D → Option D} (hk : OpOk C r k) (hk' : OpOk C r' k') (ho : OpR X (compareOp op) r) (ho' : OpR X (compareOp op') r') (ha : PE X a (rB C W ma)) (hb : PE X b (rB C W mb)) (hc : PE X c (rB C W mc))
    (hm : lastMarks [op, op'] [b, c] = false := by with_unfolding_all rfl) : PT X (.Compare a [op, op'] [b, c] pos) (rT C W (mT (mChain k k' ma mb mc))) := (pt_chain ho ho' ha hb hc hm).of fun _ _ _ h => rd_chain hk hk' (rd_test h)
end

/-! ### argument lists, displays -/
def aNil : AM := fun _ p => .ok [] p
def aCons (m : EM) (r : AM) : AM := fun env p => (m env p).bind fun d q => (r env q).bind fun ds q2 => .ok (d :: ds) q2
section
variable {X : Cx} {C : Ctx} {W : WX} {e : Expr} {es : List Expr} {m : EM} {r : AM} {pos : Pos}
theorem am_nil : PA X [] (rA C W aNil) := pa_nil.of fun σ H Q ⟨G, env, p, L, o⟩ => o [] G H (Ext.refl L.sub L.tab) L.pen .nil
theorem am_cons (h : PE X e (rE C W m)) (hr : PA X es (rA C W r)) (hs : starEach (e :: es) X.env = (false, eval e X.env) :: starEach es X.env := by rfl) : PA X (e :: es) (rA C W (aCons m r)) := (pa_cons h hr hs).of fun σ H Q ⟨G, env, p, L, o⟩ =>
  ⟨G, env, p, L, o.bind.imp (fun d q z v G1 H1 x1 y1 r1 => ⟨G1, env, q, L.step x1 y1, z.bind.imp (fun ds q2 z2 vs G2 H2 x2 y2 r2 => z2 (v :: vs) G2 H2 (x1.trans x2) y2 (.cons (r1.mono x2.gro) r2)) fun _ _ z => z.step x1⟩) fun _ _ z => z⟩
theorem bm_nil : PA X [] (rAB C W aNil) := pa_nil.of fun σ H Q ⟨G, env, p, L, o⟩ => o [] G H (Ext.refl L.sub L.tab) L.pen .nil
theorem bm_cons (h : PE X e (rB C W m)) (hr : PA X es (rAB C W r)) (hs : starEach (e :: es) X.env = (false, eval e X.env) :: starEach es X.env := by rfl) : PA X (e :: es) (rAB C W (aCons m r)) := (pa_cons h hr hs).of fun σ H Q ⟨G, env, p, L, o⟩ =>
  ⟨G, env, p, L, o.bind.imp (fun d q z v G1 H1 x1 y1 r1 => ⟨G1, env, q, L.step x1 y1, z.bind.imp (fun ds q2 z2 vs G2 H2 x2 y2 r2 => z2 (v :: vs) G2 H2 (x1.trans x2) y2 (.cons (r1.mono x2.gro) r2)) fun _ _ z => z.step x1⟩) fun _ _ z => z⟩
def mTup (r : AM) : EM := fun env p => (r env p).bind fun ds q => if ds.length ≤ sizeLine then .ok (.tup ds) q else .bad
theorem pm_tup {k} (h : PA X es (rA C W r)) : PE X (.Tuple es k pos) (rE C W (mTup r)) := (pe_tup h).of fun σ H Q ⟨G, env, p, L, o⟩ => by
  refine ⟨G, env, p, L, o.bind.imp (fun ds q z vs G1 H1 x1 y1 r1 => ?_) fun _ _ z => z⟩
  split at z
  · rename_i c
    refine ⟨by rw [r1.length]; exact c, fun t ht => ?_⟩
    have al : Alc G1 H1 (upd G1 t (.tup vs)) (upd H1 t (.tup vs)) := Alc.put x1.sub ht
    exact z _ _ _ (x1.trans (al.ext x1.tab)) (y1.alc al) (.tup upd_same (r1.mono al.gro))
  · exact z.elim
def mLst (r : AM) : AM := fun env p => (r env p).bind fun ds q => if ds.length ≤ sizeLine then .ok ds q else .bad
theorem pm_lst (h : PA X es (rA C W r)) : PE X (.List es pos) (rF C W (mLst r)) := (pe_lst h).of fun σ H Q ⟨G, env, p, L, o⟩ => by
  refine ⟨G, env, p, L, o.bind.imp (fun ds q z vs G1 H1 x1 y1 r1 => ?_) fun _ _ z => z⟩
  split at z
  · rename_i c
    refine ⟨by rw [r1.length]; exact c, fun t ht => ?_⟩
    have al : Alc G1 H1 G1 (upd H1 t (.lst vs)) := Alc.own x1.sub ht
    exact z t vs _ _ (x1.trans (al.ext x1.tab)) (y1.alc al) (x1.fre _ ht) (free_of x1.sub ht) upd_same r1
  · exact z.elim
/-- {} -/
theorem pm_dict0 : PE X (.Dict [] [] pos) (rE C W (mC (.dct []))) := pe_dnewK.of fun σ H Q ⟨G, env, p, L, o⟩ t ht => by
  have al : Alc G H (upd G t (.dK [])) (upd H t (.dK [])) := Alc.put L.sub ht
  exact o _ _ _ (L.ext al) (L.pen.alc al) (.dct upd_same .nil)
end

/-! ### calls of built-ins -/
def CallOk (C : Ctx) (r : List V → Hp → VK → Prop) (k : List D → Option D) : Prop := ∀ (G H : Hp) (σ : St) (env : Env) (p : Pen) (vs : List V) (ds : List D) (z : D) (Q : VK), LOk C G H σ env p → BReps C G σ env vs ds → k ds = some z →
  (∀ x G' H', Alc G H G' H' → Rep C G' x z → Q x H') → r vs H Q
def FCallOk (C : Ctx) (r : List V → Hp → VK → Prop) (k : List D → Option (List D)) : Prop := ∀ (G H : Hp) (σ : St) (env : Env) (p : Pen) (vs : List V) (ds z : List D) (Q : VK), LOk C G H σ env p → BReps C G σ env vs ds → k ds = some z →
  (∀ l ws, H l = none → Reps C G ws z → Q (.ref l) (upd H l (.lst ws))) → r vs H Q
def mCall (k : List D → Option D) (a : AM) : EM := fun env p => (a env p).bind fun ds q => match k ds with
  | some z => .ok z q
  | none => .bad
def mFCall (k : List D → Option (List D)) (a : AM) : AM := fun env p => (a env p).bind fun ds q => match k ds with
  | some z => .ok z q
  | none => .bad
section
variable {X : Cx} {C : Ctx} {W : WX} {e : Expr} {es : List Expr} {a : AM} {pos p : Pos} {x : Str} {r : List V → Hp → VK → Prop}
theorem rd_call {k : List D → Option D} (hk : CallOk C r k) {σ : St} {H : Hp} {Q : VK} (h : rE C W (mCall k a) σ H Q) : tCB r (rAB C W a) σ H Q := by
  obtain ⟨G, env, p, L, o⟩ := h
  refine ⟨G, env, p, L, o.bind.imp (fun ds q z vs G1 H1 x1 y1 r1 => ?_) fun _ _ z => z⟩
  cases ek : k ds with
  | none =>
    rw [ek] at z
    exact z.elim
  | some u =>
    rw [ek] at z
    have L1 := L.step x1 y1
    exact hk G1 H1 σ env q vs ds u Q L1 r1 ek fun x G' H' al rx => z x G' H' (x1.trans (L1.ext al)) (y1.alc al) rx
theorem rd_fcall {k : List D → Option (List D)} (hk : FCallOk C r k) {σ : St} {H : Hp} {Q : VK} (h : rF C W (mFCall k a) σ H Q) : tCB r (rAB C W a) σ H Q := by
  obtain ⟨G, env, p, L, o⟩ := h
  refine ⟨G, env, p, L, o.bind.imp (fun ds q z vs G1 H1 x1 y1 r1 => ?_) fun _ _ z => z⟩
  cases ek : k ds with
  | none =>
    rw [ek] at z
    exact z.elim
  | some u =>
    rw [ek] at z
    have L1 := L.step x1 y1
    refine hk G1 H1 σ env q vs ds u Q L1 r1 ek fun l ws hl rw' => ?_
    have al : Alc G1 H1 G1 (upd H1 l (.lst ws)) := Alc.own L1.sub hl
    exact z l ws _ _ (x1.trans (L1.ext al)) (y1.alc al) (x1.fre _ hl) (free_of L1.sub hl) upd_same rw'
/-- f(..), f a built-in function -/
theorem pm_cb {id : String} {k : List D → Option D} (hk : CallOk C r k) (hc : CallR X (.builtin id) r) (hm : X.mg x = none) (hv : bootBuiltins x = some (.builtin id)) (ha : PA X (e :: es) (rAB C W a)) (hg : Gl X x := by rfl) (hn : x ≠ "__name__" := by decide) (hdb : (x == ("__debug__" : Str)) = false := by decide)
    (he : starEach (e :: es) X.env = (false, eval e X.env) :: starEach es X.env := by rfl) (hpl : (backTo pos (starEach es X.env)).any (·.1) = false := by rfl) : PE X (.Call (.Name x p) (e :: es) [] pos) (rE C W (mCall k a)) := (pe_callB hc hg hm hv ha hn hdb he hpl).of fun _ _ _ h => rd_call hk h
/-- T(..), T a built-in class -/
theorem pm_ct {T : String} {k : List D → Option D} (hk : CallOk C r k) (hc : CallR X (.type T) r) (hm : X.mg x = none) (hv : bootBuiltins x = some (.type T)) (ha : PA X (e :: es) (rAB C W a)) (hg : Gl X x := by rfl) (hn : x ≠ "__name__" := by decide) (hdb : (x == ("__debug__" : Str)) = false := by decide)
    (he : starEach (e :: es) X.env = (false, eval e X.env) :: starEach es X.env := by rfl) (hpl : (backTo pos (starEach es X.env)).any (·.1) = false := by rfl) : PE X (.Call (.Name x p) (e :: es) [] pos) (rE C W (mCall k a)) := (pe_callTy hc hg hm hv ha hn hdb he hpl).of fun _ _ _ h => rd_call hk h
theorem pm_ctF {T : String} {k : List D → Option (List D)} (hk : FCallOk C r k) (hc : CallR X (.type T) r) (hm : X.mg x = none) (hv : bootBuiltins x = some (.type T)) (ha : PA X (e :: es) (rAB C W a)) (hg : Gl X x := by rfl) (hn : x ≠ "__name__" := by decide) (hdb : (x == ("__debug__" : Str)) = false := by decide)
    (he : starEach (e :: es) X.env = (false, eval e X.env) :: starEach es X.env := by rfl) (hpl : (backTo pos (starEach es X.env)).any (·.1) = false := by rfl) : PE X (.Call (.Name x p) (e :: es) [] pos) (rF C W (mFCall k a)) := (pe_callTy hc hg hm hv ha hn hdb he hpl).of fun _ _ _ h => rd_fcall hk h
theorem pm_cbF {id : String} {k : List D → Option (List D)} (hk : FCallOk C r k) (hc : CallR X (.builtin id) r) (hm : X.mg x = none) (hv : bootBuiltins x = some (.builtin id)) (ha : PA X (e :: es) (rAB C W a)) (hg : Gl X x := by rfl) (hn : x ≠ "__name__" := by decide) (hdb : (x == ("__debug__" : Str)) = false := by decide)
    (he : starEach (e :: es) X.env = (false, eval e X.env) :: starEach es X.env := by rfl) (hpl : (backTo pos (starEach es X.env)).any (·.1) = false := by rfl) : PE X (.Call (.Name x p) (e :: es) [] pos) (rF C W (mFCall k a)) := (pe_callB hc hg hm hv ha hn hdb he hpl).of fun _ _ _ h => rd_fcall hk h
end
end Pu
end

section
set_option maxHeartbeats 2000000
namespace Pu
open PySem PySem.Spec PyProof.Rows L2

/-! ### lists of ints, of bools among the data -/
def D.toInt : D → Option Int
  | .int i => some i
  | _ => none
def D.toBl : D → Option Bool
  | .bl b => some b
  | _ => none
def intsD : List D → Option (List Int)
  | [] => some []
  | d :: ds => match d.toInt, intsD ds with
    | some i, some r => some (i :: r)
    | _, _ => none
def blsD : List D → Option (List Bool)
  | [] => some []
  | d :: ds => match d.toBl, blsD ds with
    | some i, some r => some (i :: r)
    | _, _ => none
theorem intsD_map : ∀ ns : List Int, intsD (ns.map D.int) = some ns
  | [] => rfl
  | n :: r => by simp [intsD, D.toInt, intsD_map r]
theorem blsD_map : ∀ ns : List Bool, blsD (ns.map D.bl) = some ns
  | [] => rfl
  | n :: r => by simp [blsD, D.toBl, blsD_map r]
theorem intsD_eq : ∀ {ds : List D} {ns : List Int}, intsD ds = some ns → ds = ns.map D.int
  | [], ns, h => by
    cases h
    rfl
  | d :: ds, ns, h => by
    unfold intsD at h
    split at h
    · rename_i i r h1 h2
      cases h
      rw [intsD_eq h2]
      cases d <;> cases h1
      rfl
    · cases h
theorem blsD_eq : ∀ {ds : List D} {ns : List Bool}, blsD ds = some ns → ds = ns.map D.bl
  | [], ns, h => by
    cases h
    rfl
  | d :: ds, ns, h => by
    unfold blsD at h
    split at h
    · rename_i i r h1 h2
      cases h
      rw [blsD_eq h2]
      cases d <;> cases h1
      rfl
    · cases h

/-! ### the built-ins -/
section
variable {C : Ctx} {K : PySem.W.Frag} {G : Hp} {σ : St} {env : Env}
theorem BReps.one {vs : List V} {d : D} (h : BReps C G σ env vs [d]) : ∃ v, vs = [v] ∧ BRep C G σ env v d := by
  cases h with
  | cons h t =>
    cases t
    exact ⟨_, rfl, h⟩
theorem BReps.two {vs : List V} {d e : D} (h : BReps C G σ env vs [d, e]) : ∃ v w, vs = [v, w] ∧ BRep C G σ env v d ∧ BRep C G σ env w e := by
  cases h with
  | cons h t =>
    cases t with
    | cons h2 t =>
      cases t
      exact ⟨_, _, rfl, h, h2⟩
end
def kLen : List D → Option D
  | [.lst xs] => some (.int xs.length)
  | [.tup xs] => some (.int xs.length)
  | _ => none
theorem ok_len {C : Ctx} {K : PySem.W.Frag} : CallOk C (fun xs H Q => ∃ p ys, xs = [.ref p] ∧ (SqL K H p ys ∨ SqT K H p ys) ∧ Q (.int ys.length) H) kLen := by
  intro G H σ env p vs ds z Q L r ek q
  have key : ∀ (d : D) (xs : List D), ds = [d] → (d = .lst xs ∨ d = .tup xs) → z = .int xs.length → ∃ p ys, vs = [.ref p] ∧ (SqL K H p ys ∨ SqT K H p ys) ∧ Q (.int ys.length) H := by
    intro d xs e1 e2 e3
    subst e1 e3
    obtain ⟨v, rfl, rv⟩ := r.one
    obtain ⟨a, ws, rfl, hH, rs⟩ := rv.seq L e2
    refine ⟨a, ws, rfl, hH.elim (fun h => .inl (SqL.of h)) (fun h => .inr (SqT.of h)), ?_⟩
    rw [rs.length]
    exact q _ G H (Alc.refl L.sub) (.int _)
  unfold kLen at ek
  split at ek
  · cases ek
    exact key _ _ rfl (.inl rfl) rfl
  · cases ek
    exact key _ _ rfl (.inr rfl) rfl
  · cases ek
def kAbs : List D → Option D
  | [.int i] => some (.int (if i < 0 then -i else i))
  | _ => none
theorem ok_abs {C : Ctx} : CallOk C (fun xs H Q => ∃ i, xs = [.int i] ∧ Q (.int (if i < 0 then -i else i)) H) kAbs := by
  intro G H σ env p vs ds z Q L r ek q
  unfold kAbs at ek
  split at ek
  · cases ek
    obtain ⟨v, rfl, rv⟩ := r.one
    rw [rv.int]
    exact ⟨_, rfl, q _ G H (Alc.refl L.sub) (.int _)⟩
  · cases ek
def kMax2 : List D → Option D
  | [.int i, .int j] => some (.int (if j > i then j else i))
  | _ => none
theorem ok_max2 {C : Ctx} : CallOk C (fun xs H Q => ∃ i j, xs = [.int i, .int j] ∧ Q (.int (if j > i then j else i)) H) kMax2 := by
  intro G H σ env p vs ds z Q L r ek q
  unfold kMax2 at ek
  split at ek
  · cases ek
    obtain ⟨v, w, rfl, rv, rw'⟩ := r.two
    rw [rv.int, rw'.int]
    exact ⟨_, _, rfl, q _ G H (Alc.refl L.sub) (.int _)⟩
  · cases ek
def kMin2 : List D → Option D
  | [.int i, .int j] => some (.int (if j < i then j else i))
  | _ => none
theorem ok_min2 {C : Ctx} : CallOk C (fun xs H Q => ∃ i j, xs = [.int i, .int j] ∧ Q (.int (if j < i then j else i)) H) kMin2 := by
  intro G H σ env p vs ds z Q L r ek q
  unfold kMin2 at ek
  split at ek
  · cases ek
    obtain ⟨v, w, rfl, rv, rw'⟩ := r.two
    rw [rv.int, rw'.int]
    exact ⟨_, _, rfl, q _ G H (Alc.refl L.sub) (.int _)⟩
  · cases ek
def kInt1 : List D → Option D
  | [.int i] => some (.int i)
  | [.bl b] => some (.int (if b = true then 1 else 0))
  | _ => none
theorem ok_int1 {C : Ctx} : CallOk C (fun xs H Q => (∃ i, xs = [.int i] ∧ Q (.int i) H) ∨ ∃ k : Bool, xs = [.bl k] ∧ Q (.int (if k then 1 else 0)) H) kInt1 := by
  intro G H σ env p vs ds z Q L r ek q
  unfold kInt1 at ek
  split at ek
  · cases ek
    obtain ⟨v, rfl, rv⟩ := r.one
    rw [rv.int]
    exact .inl ⟨_, rfl, q _ G H (Alc.refl L.sub) (.int _)⟩
  · cases ek
    obtain ⟨v, rfl, rv⟩ := r.one
    rw [rv.bl]
    exact .inr ⟨_, rfl, q _ G H (Alc.refl L.sub) (.int _)⟩
  · cases ek
def kGcd : List D → Option D
  | [.int i, .int j] => some (.int (Nat.gcd i.natAbs j.natAbs : Nat))
  | _ => none
theorem ok_gcd {C : Ctx} : CallOk C rGcd kGcd := by
  intro G H σ env p vs ds z Q L r ek q
  unfold kGcd at ek
  split at ek
  · cases ek
    obtain ⟨v, w, rfl, rv, rw'⟩ := r.two
    rw [rv.int, rw'.int]
    exact ⟨_, _, rfl, q _ G H (Alc.refl L.sub) (.int _)⟩
  · cases ek
/-- a list of ints -/
def kInts (f : List Int → Option D) : List D → Option D
  | [.lst xs] => match intsD xs with
    | some ns => f ns
    | none => none
  | _ => none
def kBls (f : List Bool → Option D) : List D → Option D
  | [.lst xs] => match blsD xs with
    | some ns => f ns
    | none => none
  | _ => none
theorem kInts_inv {f : List Int → Option D} {ds : List D} {z : D} (h : kInts f ds = some z) : ∃ ns : List Int, ds = [.lst (ns.map D.int)] ∧ f ns = some z := by
  unfold kInts at h
  split at h
  · split at h
    · rename_i xs _ ns e
      exact ⟨ns, by rw [intsD_eq e], h⟩
    · cases h
  · cases h
theorem kBls_inv {f : List Bool → Option D} {ds : List D} {z : D} (h : kBls f ds = some z) : ∃ ns : List Bool, ds = [.lst (ns.map D.bl)] ∧ f ns = some z := by
  unfold kBls at h
  split at h
  · split at h
    · rename_i xs _ ns e
      exact ⟨ns, by rw [blsD_eq e], h⟩
    · cases h
  · cases h
theorem ok_sum {C : Ctx} {K : PySem.W.Frag} : CallOk C (rSum K) (kInts fun ns => some (.int ns.sum)) := by
  intro G H σ env p vs ds z Q L r ek q
  obtain ⟨ns, rfl, e⟩ := kInts_inv ek
  cases e
  obtain ⟨v, rfl, rv⟩ := r.one
  obtain ⟨a, ws, rfl, hH, rs⟩ := rv.lst L
  rw [Reps.of_ints rs] at hH
  exact ⟨a, ns, rfl, SqL.of hH, q _ G H (Alc.refl L.sub) (.int _)⟩
theorem ok_all {C : Ctx} {K : PySem.W.Frag} : CallOk C (rAll K) (kBls fun bs => some (.bl (bs.all id))) := by
  intro G H σ env p vs ds z Q L r ek q
  obtain ⟨ns, rfl, e⟩ := kBls_inv ek
  cases e
  obtain ⟨v, rfl, rv⟩ := r.one
  obtain ⟨a, ws, rfl, hH, rs⟩ := rv.lst L
  rw [Reps.of_bls rs] at hH
  exact ⟨a, ns, rfl, SqL.of hH, q _ G H (Alc.refl L.sub) (.bl _)⟩
theorem ok_any {C : Ctx} {K : PySem.W.Frag} : CallOk C (rAny K) (kBls fun bs => some (.bl (bs.any id))) := by
  intro G H σ env p vs ds z Q L r ek q
  obtain ⟨ns, rfl, e⟩ := kBls_inv ek
  cases e
  obtain ⟨v, rfl, rv⟩ := r.one
  obtain ⟨a, ws, rfl, hH, rs⟩ := rv.lst L
  rw [Reps.of_bls rs] at hH
  exact ⟨a, ns, rfl, SqL.of hH, q _ G H (Alc.refl L.sub) (.bl _)⟩
def maxL : List Int → Option Int
  | [] => none
  | x :: xs => some (xs.foldl (fun a b => if b > a then b else a) x)
def minL : List Int → Option Int
  | [] => none
  | x :: xs => some (xs.foldl (fun a b => if b < a then b else a) x)
theorem foldl_max (xs : List Int) : ∀ x, (xs.foldl (fun a b => if b > a then b else a) x = x ∨ xs.foldl (fun a b => if b > a then b else a) x ∈ xs) ∧ x ≤ xs.foldl (fun a b => if b > a then b else a) x ∧ ∀ y ∈ xs, y ≤ xs.foldl (fun a b => if b > a then b else a) x := by
  induction xs with
  | nil => intro x; exact ⟨.inl rfl, Int.le_refl _, fun y hy => by cases hy⟩
  | cons a r ih =>
    intro x
    rw [List.foldl_cons]
    obtain ⟨h1, h2, h3⟩ := ih (if a > x then a else x)
    have hx : x ≤ (if a > x then a else x) ∧ a ≤ (if a > x then a else x) := by split <;> omega
    refine ⟨?_, Int.le_trans hx.1 h2, fun y hy => ?_⟩
    · rcases h1 with h1 | h1
      · rw [h1]
        by_cases c : a > x
        · rw [if_pos c]
          exact .inr List.mem_cons_self
        · rw [if_neg c]
          exact .inl rfl
      · exact .inr (List.mem_cons_of_mem _ h1)
    · rcases List.mem_cons.mp hy with rfl | hy
      · exact Int.le_trans hx.2 h2
      · exact h3 y hy
theorem foldl_min (xs : List Int) : ∀ x, (xs.foldl (fun a b => if b < a then b else a) x = x ∨ xs.foldl (fun a b => if b < a then b else a) x ∈ xs) ∧ xs.foldl (fun a b => if b < a then b else a) x ≤ x ∧ ∀ y ∈ xs, xs.foldl (fun a b => if b < a then b else a) x ≤ y := by
  induction xs with
  | nil => intro x; exact ⟨.inl rfl, Int.le_refl _, fun y hy => by cases hy⟩
  | cons a r ih =>
    intro x
    rw [List.foldl_cons]
    obtain ⟨h1, h2, h3⟩ := ih (if a < x then a else x)
    have hx : (if a < x then a else x) ≤ x ∧ (if a < x then a else x) ≤ a := by split <;> omega
    refine ⟨?_, Int.le_trans h2 hx.1, fun y hy => ?_⟩
    · rcases h1 with h1 | h1
      · rw [h1]
        by_cases c : a < x
        · rw [if_pos c]
          exact .inr List.mem_cons_self
        · rw [if_neg c]
          exact .inl rfl
      · exact .inr (List.mem_cons_of_mem _ h1)
    · rcases List.mem_cons.mp hy with rfl | hy
      · exact Int.le_trans h2 hx.2
      · exact h3 y hy
theorem maxL_spec {ns : List Int} {m : Int} (h : maxL ns = some m) : m ∈ ns ∧ ∀ y ∈ ns, y ≤ m := by
  cases ns with
  | nil => cases h
  | cons x xs =>
    cases h
    obtain ⟨h1, h2, h3⟩ := foldl_max xs x
    refine ⟨?_, fun y hy => ?_⟩
    · rcases h1 with h1 | h1
      · rw [h1]
        exact List.mem_cons_self
      · exact List.mem_cons_of_mem _ h1
    · rcases List.mem_cons.mp hy with rfl | hy
      · exact h2
      · exact h3 y hy
theorem minL_spec {ns : List Int} {m : Int} (h : minL ns = some m) : m ∈ ns ∧ ∀ y ∈ ns, m ≤ y := by
  cases ns with
  | nil => cases h
  | cons x xs =>
    cases h
    obtain ⟨h1, h2, h3⟩ := foldl_min xs x
    refine ⟨?_, fun y hy => ?_⟩
    · rcases h1 with h1 | h1
      · rw [h1]
        exact List.mem_cons_self
      · exact List.mem_cons_of_mem _ h1
    · rcases List.mem_cons.mp hy with rfl | hy
      · exact h2
      · exact h3 y hy
theorem ok_maxL {C : Ctx} {K : PySem.W.Frag} : CallOk C (rMax K) (kInts fun ns => (maxL ns).map D.int) := by
  intro G H σ env p vs ds z Q L r ek q
  obtain ⟨ns, rfl, e⟩ := kInts_inv ek
  cases em : maxL ns with
  | none =>
    rw [em] at e
    cases e
  | some m =>
    rw [em] at e
    cases e
    obtain ⟨v, rfl, rv⟩ := r.one
    obtain ⟨a, ws, rfl, hH, rs⟩ := rv.lst L
    rw [Reps.of_ints rs] at hH
    obtain ⟨h1, h2⟩ := maxL_spec em
    refine ⟨a, ns, rfl, SqL.of hH, List.length_pos_of_mem h1, fun m' h3 h4 => ?_⟩
    have e : m' = m := Int.le_antisymm (h2 m' h3) (h4 m h1)
    subst e
    exact q _ G H (Alc.refl L.sub) (.int _)
theorem ok_minL {C : Ctx} {K : PySem.W.Frag} : CallOk C (rMin K) (kInts fun ns => (minL ns).map D.int) := by
  intro G H σ env p vs ds z Q L r ek q
  obtain ⟨ns, rfl, e⟩ := kInts_inv ek
  cases em : minL ns with
  | none =>
    rw [em] at e
    cases e
  | some m =>
    rw [em] at e
    cases e
    obtain ⟨v, rfl, rv⟩ := r.one
    obtain ⟨a, ws, rfl, hH, rs⟩ := rv.lst L
    rw [Reps.of_ints rs] at hH
    obtain ⟨h1, h2⟩ := minL_spec em
    refine ⟨a, ns, rfl, SqL.of hH, List.length_pos_of_mem h1, fun m' h3 h4 => ?_⟩
    have e : m' = m := Int.le_antisymm (h4 m h1) (h2 m' h3)
    subst e
    exact q _ G H (Alc.refl L.sub) (.int _)
/-- tuple(x) -/
def kTuple : List D → Option D
  | [.lst xs] => some (.tup xs)
  | [.tup xs] => some (.tup xs)
  | _ => none
theorem ok_tuple {C : Ctx} {K : PySem.W.Frag} : CallOk C (fun xs H Q => ∃ p ys, xs = [.ref p] ∧ ((SqL K H p ys ∧ ∀ l, H l = none → Q (.ref l) (upd H l (.tup ys))) ∨ (SqT K H p ys ∧ Q (.ref p) H))) kTuple := by
  intro G H σ env p vs ds z Q L r ek q
  unfold kTuple at ek
  split at ek
  · cases ek
    obtain ⟨v, rfl, rv⟩ := r.one
    obtain ⟨a, ws, rfl, hH, rs⟩ := rv.lst L
    refine ⟨a, ws, rfl, .inl ⟨SqL.of hH, fun t ht => ?_⟩⟩
    have al : Alc G H (upd G t (.tup ws)) (upd H t (.tup ws)) := Alc.put L.sub ht
    exact q _ _ _ al (.tup upd_same (rs.mono al.gro))
  · cases ek
    obtain ⟨v, rfl, rv⟩ := r.one
    obtain ⟨a, ws, rfl, hG, rs⟩ := rv.tup
    exact ⟨a, ws, rfl, .inr ⟨SqT.of (L.sub _ _ hG), q _ G H (Alc.refl L.sub) (.tup hG rs)⟩⟩
  · cases ek
/-- list(x) -/
def kList : List D → Option (List D)
  | [.lst xs] => some xs
  | [.tup xs] => some xs
  | _ => none
theorem ok_list {C : Ctx} {K : PySem.W.Frag} : FCallOk C (fun xs H Q => ∃ p ys, xs = [.ref p] ∧ (SqL K H p ys ∨ SqT K H p ys) ∧ ∀ l, H l = none → Q (.ref l) (upd H l (.lst ys))) kList := by
  intro G H σ env p vs ds z Q L r ek q
  have key : ∀ (d : D), ds = [d] → (d = .lst z ∨ d = .tup z) → ∃ p ys, vs = [.ref p] ∧ (SqL K H p ys ∨ SqT K H p ys) ∧ ∀ l, H l = none → Q (.ref l) (upd H l (.lst ys)) := by
    intro d e1 e2
    subst e1
    obtain ⟨v, rfl, rv⟩ := r.one
    obtain ⟨a, ws, rfl, hH, rs⟩ := rv.seq L e2
    exact ⟨a, ws, rfl, hH.elim (fun h => .inl (SqL.of h)) (fun h => .inr (SqT.of h)), fun l hl => q l ws hl rs⟩
  unfold kList at ek
  split at ek
  · cases ek
    exact key _ rfl (.inl rfl)
  · cases ek
    exact key _ rfl (.inr rfl)
  · cases ek

section
variable {X : Cx} {C : Ctx} {W : WX} {e e2 : Expr} {a : AM} {m m2 : EM} {pos p : Pos}
theorem pm_len (hm : X.mg "len" = none) (h : PE X e (rB C W m)) (hg : Gl X "len" := by rfl) (hs : starEach [e] X.env = (false, eval e X.env) :: starEach [] X.env := by rfl) (hpl : (backTo pos (starEach [] X.env)).any (·.1) = false := by rfl) : PE X (.Call (.Name "len" p) [e] [] pos) (rE C W (mCall kLen (aCons m aNil))) :=
  pm_cb ok_len call_len_seq hm PySem.boot_len (bm_cons h bm_nil hs) hg (by decide) (by decide) hs hpl
theorem pm_abs (hm : X.mg "abs" = none) (h : PE X e (rB C W m)) (hg : Gl X "abs" := by rfl) (hs : starEach [e] X.env = (false, eval e X.env) :: starEach [] X.env := by rfl) (hpl : (backTo pos (starEach [] X.env)).any (·.1) = false := by rfl) : PE X (.Call (.Name "abs" p) [e] [] pos) (rE C W (mCall kAbs (aCons m aNil))) :=
  pm_cb ok_abs call_abs hm boot_abs (bm_cons h bm_nil hs) hg (by decide) (by decide) hs hpl
theorem pm_int1 (hm : X.mg "int" = none) (h : PE X e (rB C W m)) (hg : Gl X "int" := by rfl) (hs : starEach [e] X.env = (false, eval e X.env) :: starEach [] X.env := by rfl) (hpl : (backTo pos (starEach [] X.env)).any (·.1) = false := by rfl) : PE X (.Call (.Name "int" p) [e] [] pos) (rE C W (mCall kInt1 (aCons m aNil))) :=
  pm_ct ok_int1 call_int1 hm boot_int (bm_cons h bm_nil hs) hg (by decide) (by decide) hs hpl
theorem pm_sum (hc : X.calm = true) (hm : X.mg "sum" = none) (h : PE X e (rB C W m)) (hg : Gl X "sum" := by rfl) (hs : starEach [e] X.env = (false, eval e X.env) :: starEach [] X.env := by rfl) (hpl : (backTo pos (starEach [] X.env)).any (·.1) = false := by rfl) : PE X (.Call (.Name "sum" p) [e] [] pos) (rE C W (mCall (kInts fun ns => some (.int ns.sum)) (aCons m aNil))) :=
  pm_cb ok_sum (cr_sum hc) hm boot_sum (bm_cons h bm_nil hs) hg (by decide) (by decide) hs hpl
theorem pm_all (hc : X.calm = true) (hm : X.mg "all" = none) (h : PE X e (rB C W m)) (hg : Gl X "all" := by rfl) (hs : starEach [e] X.env = (false, eval e X.env) :: starEach [] X.env := by rfl) (hpl : (backTo pos (starEach [] X.env)).any (·.1) = false := by rfl) : PE X (.Call (.Name "all" p) [e] [] pos) (rE C W (mCall (kBls fun bs => some (.bl (bs.all id))) (aCons m aNil))) :=
  pm_cb ok_all (cr_all hc) hm boot_all (bm_cons h bm_nil hs) hg (by decide) (by decide) hs hpl
theorem pm_any (hc : X.calm = true) (hm : X.mg "any" = none) (h : PE X e (rB C W m)) (hg : Gl X "any" := by rfl) (hs : starEach [e] X.env = (false, eval e X.env) :: starEach [] X.env := by rfl) (hpl : (backTo pos (starEach [] X.env)).any (·.1) = false := by rfl) : PE X (.Call (.Name "any" p) [e] [] pos) (rE C W (mCall (kBls fun bs => some (.bl (bs.any id))) (aCons m aNil))) :=
  pm_cb ok_any (cr_any hc) hm boot_any (bm_cons h bm_nil hs) hg (by decide) (by decide) hs hpl
theorem pm_maxL (hc : X.calm = true) (hm : X.mg "max" = none) (h : PE X e (rB C W m)) (hg : Gl X "max" := by rfl) (hs : starEach [e] X.env = (false, eval e X.env) :: starEach [] X.env := by rfl) (hpl : (backTo pos (starEach [] X.env)).any (·.1) = false := by rfl) : PE X (.Call (.Name "max" p) [e] [] pos) (rE C W (mCall (kInts fun ns => (maxL ns).map D.int) (aCons m aNil))) :=
  pm_cb ok_maxL (cr_max hc) hm boot_max (bm_cons h bm_nil hs) hg (by decide) (by decide) hs hpl
theorem pm_minL (hc : X.calm = true) (hm : X.mg "min" = none) (h : PE X e (rB C W m)) (hg : Gl X "min" := by rfl) (hs : starEach [e] X.env = (false, eval e X.env) :: starEach [] X.env := by rfl) (hpl : (backTo pos (starEach [] X.env)).any (·.1) = false := by rfl) : PE X (.Call (.Name "min" p) [e] [] pos) (rE C W (mCall (kInts fun ns => (minL ns).map D.int) (aCons m aNil))) :=
  pm_cb ok_minL (cr_min hc) hm boot_min (bm_cons h bm_nil hs) hg (by decide) (by decide) hs hpl
theorem pm_max2 (hc : X.calm = true) (hm : X.mg "max" = none) (h : PE X e (rB C W m)) (h2 : PE X e2 (rB C W m2)) (hg : Gl X "max" := by rfl) (hs : starEach [e, e2] X.env = (false, eval e X.env) :: starEach [e2] X.env := by rfl) (hs2 : starEach [e2] X.env = (false, eval e2 X.env) :: starEach [] X.env := by rfl) (hpl : (backTo pos (starEach [e2] X.env)).any (·.1) = false := by rfl) :
    PE X (.Call (.Name "max" p) [e, e2] [] pos) (rE C W (mCall kMax2 (aCons m (aCons m2 aNil)))) := pm_cb ok_max2 (call_max2 hc) hm boot_max (bm_cons h (bm_cons h2 bm_nil hs2) hs) hg (by decide) (by decide) hs hpl
theorem pm_min2 (hc : X.calm = true) (hm : X.mg "min" = none) (h : PE X e (rB C W m)) (h2 : PE X e2 (rB C W m2)) (hg : Gl X "min" := by rfl) (hs : starEach [e, e2] X.env = (false, eval e X.env) :: starEach [e2] X.env := by rfl) (hs2 : starEach [e2] X.env = (false, eval e2 X.env) :: starEach [] X.env := by rfl) (hpl : (backTo pos (starEach [e2] X.env)).any (·.1) = false := by rfl) :
    PE X (.Call (.Name "min" p) [e, e2] [] pos) (rE C W (mCall kMin2 (aCons m (aCons m2 aNil)))) := pm_cb ok_min2 (call_min2 hc) hm boot_min (bm_cons h (bm_cons h2 bm_nil hs2) hs) hg (by decide) (by decide) hs hpl
theorem pm_gcd {x : Str} (hm : X.mg x = some (.builtin "math.gcd")) (h : PE X e (rB C W m)) (h2 : PE X e2 (rB C W m2)) (hg : Gl X x := by rfl) (hd : (x == ("__debug__" : Str)) = false := by decide) (hs : starEach [e, e2] X.env = (false, eval e X.env) :: starEach [e2] X.env := by rfl) (hs2 : starEach [e2] X.env = (false, eval e2 X.env) :: starEach [] X.env := by rfl) (hpl : (backTo pos (starEach [e2] X.env)).any (·.1) = false := by rfl) :
    PE X (.Call (.Name x p) [e, e2] [] pos) (rE C W (mCall kGcd (aCons m (aCons m2 aNil)))) := (pe_callBfun cr_gcd hg hm (bm_cons h (bm_cons h2 bm_nil hs2) hs) hd hs hpl).of fun _ _ _ h => rd_call ok_gcd h
theorem pm_tuple (hm : X.mg "tuple" = none) (h : PE X e (rB C W m)) (hg : Gl X "tuple" := by rfl) (hs : starEach [e] X.env = (false, eval e X.env) :: starEach [] X.env := by rfl) (hpl : (backTo pos (starEach [] X.env)).any (·.1) = false := by rfl) : PE X (.Call (.Name "tuple" p) [e] [] pos) (rE C W (mCall kTuple (aCons m aNil))) :=
  pm_ct ok_tuple call_tuple_of hm boot_tuple (bm_cons h bm_nil hs) hg (by decide) (by decide) hs hpl
theorem pm_list (hm : X.mg "list" = none) (h : PE X e (rB C W m)) (hg : Gl X "list" := by rfl) (hs : starEach [e] X.env = (false, eval e X.env) :: starEach [] X.env := by rfl) (hpl : (backTo pos (starEach [] X.env)).any (·.1) = false := by rfl) : PE X (.Call (.Name "list" p) [e] [] pos) (rF C W (mFCall kList (aCons m aNil))) :=
  pm_ctF ok_list call_list_of hm boot_list (bm_cons h bm_nil hs) hg (by decide) (by decide) hs hpl
end
end Pu
end

section
set_option maxHeartbeats 2000000
namespace Pu
open PySem PySem.Spec PyProof.Rows L2

/-! ### subscripts -/
theorem Reps.atI {C : Ctx} {G : Hp} {vs : List V} {ds : List D} {i : Int} {d : D} (h : Reps C G vs ds) (e : L2.atI ds i = some d) : ∃ v, L2.atI vs i = some v ∧ Rep C G v d := by
  unfold L2.atI at e ⊢
  rw [h.length]
  cases ej : ixN ds.length i with
  | none =>
    rw [ej] at e
    cases e
  | some j =>
    rw [ej] at e
    exact h.getR (i := j) e
def kIx (d e : D) : Option D := match d.items, e with
  | some xs, .int i => L2.atI xs i
  | _, _ => none
theorem ok_ix {C : Ctx} {K : PySem.W.Frag} : OpOk C (rIx K) kIx := by
  intro G H σ env p v w d e z Q L rv rw' ek q
  unfold kIx at ek
  split at ek
  · rename_i xs i hxs
    rw [rw'.int]
    rcases D.items_or hxs with e1 | e1
    · subst e1
      obtain ⟨a, vs, rfl, hH, rs⟩ := rv.lst L
      obtain ⟨u, h1, h2⟩ := rs.atI ek
      exact .inl ⟨a, vs, i, u, rfl, rfl, SqL.of hH, h1, q _ G H (Alc.refl L.sub) h2⟩
    · subst e1
      obtain ⟨a, vs, rfl, hG, rs⟩ := rv.tup
      obtain ⟨u, h1, h2⟩ := rs.atI ek
      exact .inr (.inl ⟨a, vs, i, u, rfl, rfl, SqT.of (L.sub _ _ hG), h1, q _ G H (Alc.refl L.sub) h2⟩)
  · cases ek
section
variable {X : Cx} {C : Ctx} {W : WX} {a b : Expr} {ma mb : EM} {pos : Pos}
theorem pm_ix (ha : PE X a (rB C W ma)) (hb : PE X b (rB C W mb)) (hs : PlainIx b := by exact fun _ _ => rfl) : PE X (.Subscript a b pos) (rE C W (mOp kIx ma mb)) := (pe_ix ix_seq ha hb hs).of fun _ _ _ h => rd_op ok_ix h
/-- a slice's part -/
abbrev OM := Env → Pen → Out (Option Int)
def rO (C : Ctx) (W : WX) (m : OM) : TO := fun σ H Q => ∃ G env p, LOk C G H σ env p ∧ OutP (m env p) (fun o q => ∀ G' H', Ext C G H G' H' → PenAt C G' H' q → Q o H') (ErrP C W G H σ)
def oNone : OM := fun _ p => .ok none p
def oSome (m : EM) : OM := fun env p => (m env p).bind fun d q => match d with
  | .int i => .ok (some i) q
  | _ => .bad
theorem _root_.L2.PO.of {e : Option Expr} {t t' : TO} (h : PO X e t) (i : ∀ σ H Q, t' σ H Q → t σ H Q) : PO X e t' := ⟨fun pins s σ H Q I z => h.run pins s σ H Q I (i _ _ _ z)⟩
theorem om_none : PO X none (rO C W oNone) := po_none.of fun σ H Q ⟨G, env, p, L, o⟩ => o G H (Ext.refl L.sub L.tab) L.pen
theorem om_some (h : PE X a (rB C W ma)) : PO X (some a) (rO C W (oSome ma)) := (po_some h).of fun σ H Q ⟨G, env, p, L, o⟩ => by
  refine ⟨G, env, p, L, o.bind.imp (fun d q z v G1 H1 x1 y1 r1 => ?_) fun _ _ z => z⟩
  cases d with
  | int i => exact ⟨i, r1.int, z G1 H1 x1 y1⟩
  | _ => exact z.elim
def cutD {α : Type} (xs : List α) (lo hi : Option Int) : List α := (xs.drop (HT.sIx xs.length 0 lo)).take (HT.sIx xs.length xs.length hi - HT.sIx xs.length 0 lo)
theorem Reps.cut {G : Hp} {vs : List V} {ds : List D} (h : Reps C G vs ds) (lo hi : Option Int) : Reps C G (cutV vs lo hi) (cutD ds lo hi) := by
  unfold cutV cutD
  rw [h.length]
  exact (h.drop _).take _
/-- of a tuple; of a list, the new one frozen -/
def kSl (d : D) (lo hi : Option Int) : Option D := match d with
  | .tup xs => some (.tup (cutD xs lo hi))
  | .lst xs => some (.lst (cutD xs lo hi))
  | _ => none
def mSl (ma : EM) (ml mh : OM) : EM := fun env p => (ma env p).bind fun d p1 => (ml env p1).bind fun lo p2 => (mh env p2).bind fun hi p3 => match kSl d lo hi with
  | some z => .ok z p3
  | none => .bad
def mSlF (ma : EM) (ml mh : OM) : AM := fun env p => (ma env p).bind fun d p1 => (ml env p1).bind fun lo p2 => (mh env p2).bind fun hi p3 => match d with
  | .lst xs => .ok (cutD xs lo hi) p3
  | _ => .bad
theorem cut_whole {α : Type} (xs : List α) {lo hi : Option Int} (h : HT.sIx xs.length 0 lo = 0 ∧ HT.sIx xs.length xs.length hi = xs.length) : cutD xs lo hi = xs := by
  unfold cutD
  rw [h.1, h.2, List.drop_zero, Nat.sub_zero, List.take_length]
theorem pm_sl {lo hi : Option Expr} {ml mh : OM} {p2 : Pos} (ha : PE X a (rB C W ma)) (hl : PO X lo (rO C W ml)) (hh : PO X hi (rO C W mh)) : PE X (.Subscript a (.Slice lo hi none p2) pos) (rE C W (mSl ma ml mh)) :=
  (pe_slice (SlR.or sl_list sl_tupA) ha hl hh).of fun σ H Q ⟨G, env, p, L, o⟩ => by
    refine ⟨G, env, p, L, o.bind.imp (fun d q z v G1 H1 x1 y1 r1 => ?_) fun _ _ z => z⟩
    have L1 := L.step x1 y1
    refine ⟨G1, env, q, L1, z.bind.imp (fun l q2 z2 G2 H2 x2 y2 => ?_) fun _ _ z => z.step x1⟩
    have L2 := L1.step x2 y2
    refine ⟨G2, env, q2, L2, z2.bind.imp (fun h q3 z3 G3 H3 x3 y3 => ?_) fun _ _ z => z.step (x1.trans x2)⟩
    have L3 := L2.step x3 y3
    have x13 := (x1.trans x2).trans x3
    have r3 := (r1.mono x2.gro).mono x3.gro
    cases d with
    | tup xs =>
      obtain ⟨t, vs, rfl, hG, rs⟩ := r3.tup
      refine .inr ⟨t, vs, rfl, SqT.of (L3.sub _ _ hG), fun hw => ?_, fun _ n hn => ?_⟩
      · have hw' : HT.sIx xs.length 0 l = 0 ∧ HT.sIx xs.length xs.length h = xs.length := by rw [← rs.length]; exact hw
        exact z3 (.ref t) G3 H3 x13 y3 (by rw [cut_whole xs hw']; exact .tup hG rs)
      · have al : Alc G3 H3 (upd G3 n (.tup (cutV vs l h))) (upd H3 n (.tup (cutV vs l h))) := Alc.put L3.sub hn
        exact z3 (.ref n) _ _ (x13.trans (L3.ext al)) (y3.alc al) (.tup upd_same ((rs.cut l h).mono al.gro))
    | lst xs =>
      obtain ⟨t, vs, rfl, hH, rs⟩ := r3.lst L3
      refine .inl ⟨t, vs, rfl, SqL.of hH, fun n hn => ?_⟩
      have al : Alc G3 H3 (upd G3 n (.lst (cutV vs l h))) (upd H3 n (.lst (cutV vs l h))) := Alc.put L3.sub hn
      exact z3 (.ref n) _ _ (x13.trans (L3.ext al)) (y3.alc al) (.lst upd_same ((rs.cut l h).mono al.gro))
    | _ => exact z3.elim
theorem pm_slF {lo hi : Option Expr} {ml mh : OM} {p2 : Pos} (ha : PE X a (rB C W ma)) (hl : PO X lo (rO C W ml)) (hh : PO X hi (rO C W mh)) : PE X (.Subscript a (.Slice lo hi none p2) pos) (rF C W (mSlF ma ml mh)) :=
  (pe_slice sl_list ha hl hh).of fun σ H Q ⟨G, env, p, L, o⟩ => by
    refine ⟨G, env, p, L, o.bind.imp (fun d q z v G1 H1 x1 y1 r1 => ?_) fun _ _ z => z⟩
    have L1 := L.step x1 y1
    refine ⟨G1, env, q, L1, z.bind.imp (fun l q2 z2 G2 H2 x2 y2 => ?_) fun _ _ z => z.step x1⟩
    have L2 := L1.step x2 y2
    refine ⟨G2, env, q2, L2, z2.bind.imp (fun h q3 z3 G3 H3 x3 y3 => ?_) fun _ _ z => z.step (x1.trans x2)⟩
    have L3 := L2.step x3 y3
    have x13 := (x1.trans x2).trans x3
    have r3 := (r1.mono x2.gro).mono x3.gro
    cases d with
    | lst xs =>
      obtain ⟨t, vs, rfl, hH, rs⟩ := r3.lst L3
      refine ⟨t, vs, rfl, SqL.of hH, fun n hn => ?_⟩
      have al : Alc G3 H3 G3 (upd H3 n (.lst (cutV vs l h))) := Alc.own L3.sub hn
      exact z3 n _ _ _ (x13.trans (L3.ext al)) (y3.alc al) (x13.fre _ hn) (free_of L3.sub hn) upd_same (rs.cut l h)
    | _ => exact z3.elim

/-! ### minus, fields -/
def mNeg (m : EM) : EM := fun env p => (m env p).bind fun d q => match d with
  | .int i => .ok (.int (-i)) q
  | _ => .bad
theorem pm_neg (h : PE X a (rB C W ma)) : PE X (.UnaryOp .USub a pos) (rE C W (mNeg ma)) := (pe_un un_neg h).of fun σ H Q ⟨G, env, p, L, o⟩ => by
  refine ⟨G, env, p, L, o.bind.imp (fun d q z v G1 H1 x1 y1 r1 => ?_) fun _ _ z => z⟩
  cases d with
  | int i => exact ⟨i, r1.int, z (.int (-i)) G1 H1 x1 y1 (.int _)⟩
  | _ => exact z.elim
theorem look_put {α : Type} (f g : Str) (y : α) (fs : List (Str × α)) : ((f, y) :: fs).lookup g = if g = f then some y else fs.lookup g := by
  by_cases h : g = f
  · subst h
    simp [List.lookup]
  · have e : (g == f) = false := by simpa using h
    rw [if_neg h]
    simp [List.lookup, e]
theorem RepF.at {G : Hp} {f : Str} {d : D} : ∀ {vs : List (Str × V)} {ds : List (Str × D)}, RepF C G vs ds → ds.lookup f = some d → ∃ v, vs.lookup f = some v ∧ Rep C G v d
  | _, _, .nil, e => by cases e
  | (k, v) :: vs, (_, d') :: ds, .cons h t, e => by
    rw [look_put] at e ⊢
    by_cases c : f = k
    · rw [if_pos c] at e ⊢
      cases e
      exact ⟨v, rfl, h⟩
    · rw [if_neg c] at e ⊢
      exact RepF.at t e
theorem RepF.none {G : Hp} {f : Str} : ∀ {vs : List (Str × V)} {ds : List (Str × D)}, RepF C G vs ds → ds.lookup f = Option.none → vs.lookup f = Option.none
  | _, _, .nil, _ => rfl
  | (k, v) :: vs, (_, d') :: ds, .cons h t, e => by
    rw [look_put] at e ⊢
    by_cases c : f = k
    · rw [if_pos c] at e
      cases e
    · rw [if_neg c] at e ⊢
      exact RepF.none t e
/-- the classes named in cs have such attributes -/
def FldOk (C : Ctx) (cs : List Str) (f : Str) : Prop := ∀ c ∈ cs, ∀ cA, C.mg c = some (.ref cA) → Cls C.K cA ∧ NoAttr C.K cA f
def mFld (cs : List Str) (f : Str) (m : EM) : EM := fun env p => (m env p).bind fun d q => match d with
  | .obj c fs => if c ∈ cs then (match fs.lookup f with
    | some z => .ok z q
    | none => .bad) else .bad
  | _ => .bad
theorem pm_fld {cs : List Str} {f : Str} (hK : C.K = X.K) (hf : FldOk C cs f) (h : PE X a (rB C W ma)) (hb : attributeBase a f X.env (eval a X.env) = eval a X.env := by rfl) : PE X (.Attribute a f pos) (rE C W (mFld cs f ma)) := (pe_fld h hb).of fun σ H Q ⟨G, env, p, L, o⟩ => by
  refine ⟨G, env, p, L, o.bind.imp (fun d q z v G1 H1 x1 y1 r1 => ?_) fun _ _ z => z⟩
  cases d with
  | obj c fs =>
    have z1 : OutP (if c ∈ cs then (match fs.lookup f with
      | some z => Out.ok z q
      | none => .bad) else .bad) _ _ := z
    by_cases hc : c ∈ cs
    · rw [if_pos hc] at z1
      cases el : fs.lookup f with
      | none =>
        rw [el] at z1
        exact z1.elim
      | some u =>
        rw [el] at z1
        rcases r1 with r1 | ⟨_, _, _, _, e2, _⟩
        · cases r1 with
          | obj m hG r =>
            obtain ⟨w, h1, h2⟩ := r.at el
            obtain ⟨c1, c2⟩ := hf c hc _ m
            rw [hK] at c1 c2
            exact ⟨_, _, _, _, w, rfl, x1.sub _ _ hG, c1, c2, h1, z1 w G1 H1 x1 y1 h2⟩
        · cases e2
    · rw [if_neg hc] at z1
      exact z1.elim
  | _ => exact z.elim

/-! ### list(range(..)), tuple(range(..)) -/
def rgD (a b : Int) : List D := (List.range (b - a).toNat).map fun i => D.int (a + (i : Nat))
theorem rg_reps {G : Hp} (a b : Int) : Reps C G (rgV a b) (rgD a b) := by
  have e1 : rgV a b = ((List.range (b - a).toNat).map fun i => a + ((i : Nat) : Int)).map V.int := by
    unfold rgV
    rw [List.map_map]
    rfl
  have e2 : rgD a b = ((List.range (b - a).toNat).map fun i => a + ((i : Nat) : Int)).map D.int := by
    unfold rgD
    rw [List.map_map]
    rfl
  rw [e1, e2]
  exact Reps.ints _
abbrev RM := Env → Pen → Out (Int × Int)
def rRg (C : Ctx) (W : WX) (m : RM) : St → Hp → (Int → Int → Hp → Prop) → Prop := fun σ H Q => ∃ G env p, LOk C G H σ env p ∧ OutP (m env p) (fun o q => ∀ G' H', Ext C G H G' H' → PenAt C G' H' q → Q o.1 o.2 H') (ErrP C W G H σ)
def mRg1 (m : EM) : RM := fun env p => (m env p).bind fun d q => match d with
  | .int i => .ok (0, i) q
  | _ => .bad
def mRg2 (m m2 : EM) : RM := fun env p => (m env p).bind fun d q => (m2 env q).bind fun e q2 => match d, e with
  | .int i, .int j => .ok (i, j) q2
  | _, _ => .bad
theorem prg_of {e : Expr} {t t' : St → Hp → (Int → Int → Hp → Prop) → Prop} (h : PRg X e t) (i : ∀ σ H Q, t' σ H Q → t σ H Q) : PRg X e t' := fun pins s σ H Q I z => h pins s σ H Q I (i _ _ _ z)
theorem rg_1 {p : Pos} (hm : X.mg "range" = none) (ha : PE X a (rB C W ma)) (hg : Gl X "range" := by rfl) (na : starEach [a] X.env = (false, eval a X.env) :: starEach [] X.env := by rfl) : PRg X (.Call (.Name "range" p) [a] [] pos) (rRg C W (mRg1 ma)) :=
  prg_of (prg_1 hg hm ha na) fun σ H Q ⟨G, env, p, L, o⟩ => ⟨G, env, p, L, o.bind.imp (fun d q z v G1 H1 x1 y1 r1 => by
    cases d with
    | int i => exact ⟨i, r1.int, z G1 H1 x1 y1⟩
    | _ => exact z.elim) fun _ _ z => z⟩
theorem rg_2 {p : Pos} (hm : X.mg "range" = none) (ha : PE X a (rB C W ma)) (hb : PE X b (rB C W mb)) (hg : Gl X "range" := by rfl) (na : starEach [a, b] X.env = (false, eval a X.env) :: starEach [b] X.env := by rfl)
    (nb : starEach [b] X.env = (false, eval b X.env) :: starEach [] X.env := by rfl) (hp : (backTo pos (starEach [b] X.env)).any (·.1) = false := by rfl) : PRg X (.Call (.Name "range" p) [a, b] [] pos) (rRg C W (mRg2 ma mb)) :=
  prg_of (prg_2 hg hm ha hb na nb hp) fun σ H Q ⟨G, env, p, L, o⟩ => ⟨G, env, p, L, o.bind.imp (fun d q z v G1 H1 x1 y1 r1 => ⟨G1, env, q, L.step x1 y1, z.bind.imp (fun e q2 z2 w G2 H2 x2 y2 r2 => by
    cases d with
    | int i =>
      cases e with
      | int j => exact ⟨i, j, r1.int, r2.int, z2 G2 H2 (x1.trans x2) y2⟩
      | _ => exact z2.elim
    | _ => exact z2.elim) fun _ _ z => z.step x1⟩) fun _ _ z => z⟩
def gRg (a b : Int) : Bool := decide (-(2 ^ 62) ≤ a) && (decide (a < 2 ^ 62) && (decide (-(2 ^ 62) ≤ b) && (decide (b < 2 ^ 62) && decide ((b - a).toNat ≤ 2 ^ 24))))
theorem gRg_ok {a b : Int} (h : gRg a b = true) : RgOk a b := by
  unfold gRg at h
  simp only [Bool.and_eq_true, decide_eq_true_eq] at h
  exact ⟨h.1, h.2.1, h.2.2.1, h.2.2.2.1, h.2.2.2.2⟩
def mLRg (m : RM) : AM := fun env p => (m env p).bind fun o q => if gRg o.1 o.2 = true then .ok (rgD o.1 o.2) q else .bad
def mTRg (m : RM) : EM := fun env p => (m env p).bind fun o q => if gRg o.1 o.2 = true then .ok (.tup (rgD o.1 o.2)) q else .bad
theorem pm_listRg {m : RM} {p : Pos} (hc : X.calm = true) (hm : X.mg "list" = none) (ha : PRg X a (rRg C W m)) (hg : Gl X "list" := by rfl) (na : starEach [a] X.env = (false, eval a X.env) :: starEach [] X.env := by rfl) : PE X (.Call (.Name "list" p) [a] [] pos) (rF C W (mLRg m)) :=
  (pe_listRg hc hg hm ha na).of fun σ H Q ⟨G, env, p, L, o⟩ => by
    refine ⟨G, env, p, L, o.bind.imp (fun d q z G1 H1 x1 y1 => ?_) fun _ _ z => z⟩
    split at z
    · rename_i c
      refine ⟨gRg_ok c, fun n hn => ?_⟩
      have al : Alc G1 H1 G1 (upd H1 n (.lst (rgV d.1 d.2))) := Alc.own x1.sub hn
      exact z n _ _ _ (x1.trans (al.ext x1.tab)) (y1.alc al) (x1.fre _ hn) (free_of x1.sub hn) upd_same (rg_reps _ _)
    · exact z.elim
theorem pm_tupRg {m : RM} {p : Pos} (hc : X.calm = true) (hm : X.mg "tuple" = none) (ha : PRg X a (rRg C W m)) (hg : Gl X "tuple" := by rfl) (na : starEach [a] X.env = (false, eval a X.env) :: starEach [] X.env := by rfl) : PE X (.Call (.Name "tuple" p) [a] [] pos) (rE C W (mTRg m)) :=
  (pe_tupRg hc hg hm ha na).of fun σ H Q ⟨G, env, p, L, o⟩ => by
    refine ⟨G, env, p, L, o.bind.imp (fun d q z G1 H1 x1 y1 => ?_) fun _ _ z => z⟩
    split at z
    · rename_i c
      refine ⟨gRg_ok c, fun n hn => ?_⟩
      have al : Alc G1 H1 (upd G1 n (.tup (rgV d.1 d.2))) (upd H1 n (.tup (rgV d.1 d.2))) := Alc.put x1.sub hn
      exact z (.ref n) _ _ (x1.trans (al.ext x1.tab)) (y1.alc al) (.tup upd_same (rg_reps _ _))
    · exact z.elim
end
end Pu
end

section
set_option maxHeartbeats 2000000
namespace Pu
open PySem PySem.Spec PyProof.Rows L2

/-! ### a def's promise by its mirror -/
abbrev FM := List D → Pen → Out D
/-- called with what bears ds, it does what the mirror says -/
def spM (C : Ctx) (m : FM) (n : Nat) : Sp := fun vs H Q E => ∃ G ds p, vs.length = n ∧ Sub G H ∧ Tb C H ∧ NT C G ∧ PenAt C G H p ∧ Reps C G vs ds ∧
  OutP (m ds p) (fun d q => ∀ v G' H', Ext C G H G' H' → PenAt C G' H' q → Rep C G' v d → Q v H') (fun e q => ∀ cls dd G' H', Ext C G H G' H' → PenAt C G' H' q → ErrRep C G' H' cls dd e → E cls dd H')
/-- a promise of a def; gd: it holds where no repr runs -/
structure FnA (gd : Bool) (P : Program) (w : World) (K : PySem.W.Frag) (mg : Str → Option Value) (base : Heap) (CX : CXT) (k : Nat) (f : Addr) (fd : FuncData) (ps : List Str) (sp : Sp) : Prop where
  len : ∀ vs H Q E, sp vs H Q E → vs.length = ps.length
  run : ∀ (A : Around) (outer : List PySem.Env) (s : Shared) (H : Hp) (args : Args) (us : List Value) (vs : List V) (Q : VK) (E : XK), Room k A → (gd = true → A.guards = some []) → Env0 P w K mg base A outer s H → BindsTo s fd args (ps.zip us) → Vals vs us → sp vs H Q E →
    codeAny (model P w) A (.call (.ref f) args) (CR CX outer P w H s Q E) s
theorem FnA.of {gd : Bool} {P : Program} {w : World} {K : PySem.W.Frag} {mg : Str → Option Value} {base : Heap} {CX : CXT} {k : Nat} {f : Addr} {fd : FuncData} {ps : List Str} {sp : Sp} (F : FnOk P w K mg base CX k f fd ps sp) : FnA gd P w K mg base CX k f fd ps sp :=
  ⟨F.len, fun A outer s H args us vs Q E hr _ => F.run A outer s H args us vs Q E hr⟩
/-- where one stands: the context, the wish about errors, the room -/
structure Wk (X : Cx) (C : Ctx) (W : WX) (gd : Bool) (k : Nat) : Prop where
  K : C.K = X.K
  mg : C.mg = X.mg
  room : Room k X.A
  gd : gd = true → X.A.guards = some []
  tk : Takes X W
  cold : C.ex = none
theorem Wk.hu {X : Cx} {C : Ctx} {W : WX} {gd : Bool} {k : Nat} (w : Wk X C W gd k) : X.A.units + 64 < cLine := by
  have h := w.room.un
  omega
theorem Wk.hu65 {X : Cx} {C : Ctx} {W : WX} {gd : Bool} {k : Nat} (w : Wk X C W gd k) : X.A.units + 65 < cLine := by
  have h := w.room.un
  omega
/-- a def of the module, by its name -/
structure Fn (C : Ctx) (P : Program) (w : World) (base : Heap) (gd : Bool) (x : Str) (k n : Nat) (m : FM) : Prop where
  ex : ∃ (f : Addr) (fd : FuncData) (ps : List Str), C.mg x = some (.ref f) ∧ PySem.W.keepIn C.K (.ref f) = true ∧ Binds C.K fd ps [] ∧ ps.length = n ∧ FnA gd P w C.K C.mg base (L2.CX P w) k f fd ps (spM C m n)
section
variable {X : Cx} {C : Ctx} {W : WX} {e : Expr} {es : List Expr} {a : AM} {pos p : Pos} {x : Str} {gd gd' : Bool} {k j n : Nat} {m : FM}
theorem run_fnA {f : Addr} {fd : FuncData} {ps : List Str} {sp : Sp} {CX : CXT} {E : XK} {pins : List (Addr × Obj)} {σ : St} {H : Hp} {s : Shared} {Q : VK} {us : List Value} {vs : List V} (F : FnA gd X.prog X.w X.K X.mg X.base CX k f fd ps sp) (hr : Room k X.A) (hg : gd = true → X.A.guards = some [])
    (hb : Binds X.K fd ps []) (hx : ∀ (er : Value) (s' : Shared), CX X.stack H s E er s' → X.xe er s') (I : Inv X pins σ H s) (r : Vals vs us) (h : sp vs H Q E) : wpAny (model X.prog X.w) X.A (call (.ref f) us) (EP X pins σ Q) X.xe s := by
  have hl : (us ++ []).length = ps.length := by
    rw [List.append_nil, ← r.length]
    exact F.len _ _ _ _ h
  have b := hb s us I.kIn hl
  rw [List.append_nil] at b
  refine wpAny_call (codeAny_mono (F.run X.A X.stack s H ⟨us, []⟩ us vs Q E hr hg I.env0 b r h) fun res s' done => ?_)
  cases res with
  | error er => exact hx er s' done
  | ok fl => cases fl with
    | ret u => exact I.after done
    | next => exact done.elim
    | brk => exact done.elim
    | cont => exact done.elim
abbrev ALen (a : AM) (n : Nat) : Prop := ∀ env p ds q, a env p = .ok ds q → ds.length = n
theorem a0 : ALen aNil 0 := fun _ _ _ _ h => by
  cases h
  rfl
theorem al {m : EM} {r : AM} {n : Nat} (h : ALen r n) : ALen (aCons m r) (n + 1) := fun env p ds q e => by
  unfold aCons at e
  cases e1 : m env p with
  | bad =>
    rw [e1] at e
    cases e
  | err er q1 =>
    rw [e1] at e
    cases e
  | ok d q1 =>
    rw [e1] at e
    have e' : (r env q1).bind (fun ds q2 => .ok (d :: ds) q2) = .ok ds q := e
    cases e2 : r env q1 with
    | bad =>
      rw [e2] at e'
      cases e'
    | err er q2 =>
      rw [e2] at e'
      cases e'
    | ok ds2 q2 =>
      rw [e2] at e'
      cases e'
      rw [List.length_cons, h env q1 ds2 q e2]
def mFn (m : FM) (a : AM) : EM := fun env p => (a env p).bind fun ds q => m ds q
theorem pm_call (F : Fn C X.prog X.w X.base gd x k n m) (w : Wk X C W gd' j) (hk : k ≤ j) (hgd : gd = true → gd' = true) (ha : PA X (e :: es) (rA C W a)) (hl : ALen a n) (hg : Gl X x := by rfl) (hdb : (x == ("__debug__" : Str)) = false := by decide)
    (he : starEach (e :: es) X.env = (false, eval e X.env) :: starEach es X.env := by rfl) (hpl : (backTo pos (starEach es X.env)).any (·.1) = false := by rfl) : PE X (.Call (.Name x p) (e :: es) [] pos) (rE C W (mFn m a)) := by
  obtain ⟨f, fd, ps, h1, h2, h3, h4, F⟩ := F.ex
  refine ⟨fun pins s σ H Q I ⟨G, env, p0, L, o⟩ => ?_⟩
  have hm1 : X.mg x = some (.ref f) := by rw [← w.mg]; exact h1
  rw [w.K] at h2 h3 F
  rw [w.mg] at F
  refine wpAny_Call_Name_kw (ld_glob I hg hm1 ?_ hdb)
  have o2 := o.bind
  cases ea : a env p0 with
  | bad =>
    rw [ea] at o2
    exact o2.elim
  | err er q =>
    have z : rA C W a σ H (fun _ _ => False) := ⟨G, env, p0, L, by rw [ea] at o2 ⊢; exact o2⟩
    refine PySem.W.callWith_K (h₀ := X.base) I.ok.mod.kin h2 (thn (ha.run pos pins s σ H _ I z) fun us s1 ⟨vs, H1, I1, r, q⟩ => q.elim) he hpl
  | ok ds q =>
    have lds := hl _ _ _ _ ea
    rw [ea] at o2
    have z : rA C W a σ H (fun vs H1 => spM C m n vs H1 Q (fun cls d H' => W cls d σ H')) := ⟨G, env, p0, L, by
      rw [ea]
      intro vs G1 H1 x1 y1 r1
      refine ⟨G1, ds, q, by rw [r1.length]; exact lds, x1.sub, x1.tab, x1.nt L.tab L.nt, y1, r1, OutP.imp o2 (fun d q2 z2 v G2 H2 x2 y2 r2 => z2 v G2 H2 (x1.trans x2) y2 r2) fun er q2 z2 cls dd G2 H2 x2 y2 r2 => z2 cls dd G2 H2 (x1.trans x2) y2 r2⟩⟩
    refine PySem.W.callWith_K (h₀ := X.base) I.ok.mod.kin h2 (thn (ha.run pos pins s σ H _ I z) fun us s1 ⟨vs, H1, I1, r, q⟩ => ⟨I1.kIn, ?_⟩) he hpl
    exact run_fnA F (w.room.mono hk) (fun c => w.gd (hgd c)) h3 (fun er s' c => w.tk er s' (XE.of_call I1 (fun cls d H2 h => h) c)) I1 r q
/-- f() -/
theorem pm_call0 (F : Fn C X.prog X.w X.base gd x k 0 m) (w : Wk X C W gd' j) (hk : k ≤ j) (hgd : gd = true → gd' = true) (hg : Gl X x := by rfl) (hdb : (x == ("__debug__" : Str)) = false := by decide) : PE X (.Call (.Name x p) [] [] pos) (rE C W (mFn m aNil)) := by
  obtain ⟨f, fd, ps, h1, h2, h3, h4, F⟩ := F.ex
  refine ⟨fun pins s σ H Q I ⟨G, env, p0, L, o⟩ => ?_⟩
  have hm1 : X.mg x = some (.ref f) := by rw [← w.mg]; exact h1
  rw [w.K] at h2 h3 F
  rw [w.mg] at F
  refine wpAny_Call_Name_kw (ld_glob I hg hm1 ?_ hdb)
  refine PySem.W.callWith_K0 I.kIn h2 (run_fnA F (w.room.mono hk) (fun c => w.gd (hgd c)) h3 (fun er s' c => w.tk er s' (XE.of_call I (fun cls d H2 h => h) c)) I .nil (E := fun cls d H' => W cls d σ H') ?_)
  exact ⟨G, [], p0, rfl, L.sub, L.tab, L.nt, L.pen, .nil, OutP.imp o (fun d q2 z2 v G2 H2 x2 y2 r2 => z2 v G2 H2 x2 y2 r2) fun er q2 z2 cls dd G2 H2 x2 y2 r2 => z2 cls dd G2 H2 x2 y2 r2⟩

/-! ### lists of the frame's own handed to a def: frozen while it runs -/
mutual
def D.noL : D → Bool
  | .lst _ => false
  | .tup xs => D.noLs xs
  | .dct kvs => D.noLk kvs
  | .obj _ fs => D.noLf fs
  | .non => true
  | .bl _ => true
  | .int _ => true
  | .str _ => true
  | .pen => true
  | .fn _ => true
  | .ty _ => true
  | .exc _ fs => D.noLf fs
  | .scr _ => false
  | .clo => false
  | .lam _ => false
def D.noLs : List D → Bool
  | [] => true
  | x :: xs => x.noL && D.noLs xs
def D.noLk : List (Key × D) → Bool
  | [] => true
  | (_, x) :: xs => x.noL && D.noLk xs
def D.noLf : List (Str × D) → Bool
  | [] => true
  | (_, x) :: xs => x.noL && D.noLf xs
end
/-- what is left of a heap without some lists -/
def NotL (G G' : Hp) : Prop := ∀ a o, G a = some o → (∀ vs, o ≠ .lst vs) → G' a = some o
mutual
theorem Rep.noL {G G' : Hp} (s : NotL G G') : ∀ {v : V} {d : D}, Rep C G v d → d.noL = true → Rep C G' v d
  | _, _, .non, _ => .non
  | _, _, .bl b, _ => .bl b
  | _, _, .int i, _ => .int i
  | _, _, .str x, _ => .str x
  | _, _, .tup h r, e => .tup (s _ _ h fun _ z => by cases z) (Reps.noL s r (by simpa only [D.noL] using e))
  | _, _, .lst h r, e => by simp [D.noL] at e
  | _, _, .dct h r, e => .dct (s _ _ h fun _ z => by cases z) (RepK.noL s r (by simpa only [D.noL] using e))
  | _, _, .obj m h r, e => .obj m (s _ _ h fun _ z => by cases z) (RepF.noL s r (by simpa only [D.noL] using e))
  | _, _, .pen h, _ => .pen h
  | _, _, .fn h, _ => .fn h
  | _, _, .ty n, _ => .ty n
  | _, _, .scr h, e => by simp [D.noL] at e
  | _, _, .clo h s0, e => by simp [D.noL] at e
  | _, _, .lam _ _ _, e => by simp [D.noL] at e
  | _, _, .exc0 h m, _ => .exc0 h m
  | _, _, .exc1 h m g r, e => .exc1 h m (s _ _ g fun _ z => by cases z) (RepF.noL s r (by simpa only [D.noL] using e))
theorem Reps.noL {G G' : Hp} (s : NotL G G') : ∀ {vs : List V} {ds : List D}, Reps C G vs ds → D.noLs ds = true → Reps C G' vs ds
  | _, _, .nil, _ => .nil
  | _, _, .cons h t, e => by
    simp only [D.noLs, Bool.and_eq_true] at e
    exact .cons (Rep.noL s h e.1) (Reps.noL s t e.2)
theorem RepK.noL {G G' : Hp} (s : NotL G G') : ∀ {vs : List (Key × V)} {ds : List (Key × D)}, RepK C G vs ds → D.noLk ds = true → RepK C G' vs ds
  | _, _, .nil, _ => .nil
  | _, _, .cons h t, e => by
    simp only [D.noLk, Bool.and_eq_true] at e
    exact .cons (Rep.noL s h e.1) (RepK.noL s t e.2)
theorem RepF.noL {G G' : Hp} (s : NotL G G') : ∀ {vs : List (Str × V)} {ds : List (Str × D)}, RepF C G vs ds → D.noLf ds = true → RepF C G' vs ds
  | _, _, .nil, _ => .nil
  | _, _, .cons h t, e => by
    simp only [D.noLf, Bool.and_eq_true] at e
    exact .cons (Rep.noL s h e.1) (RepF.noL s t e.2)
end
/-- a is a list of the frame's own -/
def Own (σ : St) (env : Env) (a : Addr) : Prop := ∃ (i : Nat) (ds : List D), σ[i]? = some (some (.ref a)) ∧ env[i]? = some (.own ds)
open Classical in
noncomputable def frz (G H : Hp) (σ : St) (env : Env) : Hp := fun a => if Own σ env a then H a else G a
open Classical in
noncomputable def thaw (G : Hp) (σ : St) (env : Env) : Hp := fun a => if Own σ env a then none else G a
theorem LOk.own_at {G H : Hp} {σ : St} {env : Env} {p : Pen} (L : LOk C G H σ env p) {a : Addr} (o : Own σ env a) : G a = none ∧ ∃ vs, H a = some (.lst vs) := by
  obtain ⟨i, ds, h1, h2⟩ := o
  obtain ⟨b, vs, e1, e2, e3, _⟩ := L.own h2
  rw [h1] at e1
  cases e1
  exact ⟨e3, vs, e2⟩
theorem frz_own {G H : Hp} {σ : St} {env : Env} {a : Addr} (o : Own σ env a) : frz G H σ env a = H a := by
  unfold frz
  exact if_pos o
theorem frz_not {G H : Hp} {σ : St} {env : Env} {a : Addr} (o : ¬ Own σ env a) : frz G H σ env a = G a := by
  unfold frz
  exact if_neg o
theorem thaw_own {G : Hp} {σ : St} {env : Env} {a : Addr} (o : Own σ env a) : thaw G σ env a = none := by
  unfold thaw
  exact if_pos o
theorem thaw_not {G : Hp} {σ : St} {env : Env} {a : Addr} (o : ¬ Own σ env a) : thaw G σ env a = G a := by
  unfold thaw
  exact if_neg o
theorem LOk.frz_gro {G H : Hp} {σ : St} {env : Env} {p : Pen} (L : LOk C G H σ env p) : Sub G (frz G H σ env) := fun a o e => by
  by_cases c : Own σ env a
  · rw [(L.own_at c).1] at e
    cases e
  · rw [frz_not c]
    exact e
theorem LOk.frz_sub {G H : Hp} {σ : St} {env : Env} {p : Pen} (L : LOk C G H σ env p) : Sub (frz G H σ env) H := fun a o e => by
  by_cases c : Own σ env a
  · rw [frz_own c] at e
    exact e
  · rw [frz_not c] at e
    exact L.sub a o e
theorem LOk.frz_pen {G H : Hp} {σ : St} {env : Env} {p : Pen} (L : LOk C G H σ env p) : PenAt C (frz G H σ env) H p := fun a e => by
  obtain ⟨n, h1, h2⟩ := L.pen a e
  refine ⟨?_, h1, L.frz_gro _ _ h2⟩
  have c : ¬ Own σ env a := fun o => by
    obtain ⟨_, vs, h3⟩ := L.own_at o
    rw [h1] at h3
    cases h3
  rw [frz_not c]
  exact n
theorem LOk.frz_nt {G H : Hp} {σ : St} {env : Env} {p : Pen} (L : LOk C G H σ env p) : NT C (frz G H σ env) := fun q hq => by
  have c : ¬ Own σ env q.1 := fun o => by
    obtain ⟨_, vs, h3⟩ := L.own_at o
    obtain ⟨_, t, _⟩ := L.tab.tabs q hq
    rw [t] at h3
    cases h3
  rw [frz_not c]
  exact L.nt q hq
theorem BRep.frz {G H : Hp} {σ : St} {env : Env} {p : Pen} {v : V} {d : D} (L : LOk C G H σ env p) (h : BRep C G σ env v d) : Rep C (Pu.frz G H σ env) v d := by
  rcases h with h | ⟨i, ds, a, rfl, rfl, h3, h4⟩
  · exact h.mono L.frz_gro
  · obtain ⟨b, vs, e1, e2, e3, e4⟩ := L.own h4
    rw [h3] at e1
    cases e1
    refine .lst ?_ (e4.mono L.frz_gro)
    rw [frz_own ⟨i, ds, h3, h4⟩]
    exact e2
theorem BReps.frz {G H : Hp} {σ : St} {env : Env} {p : Pen} (L : LOk C G H σ env p) : ∀ {vs : List V} {ds : List D}, BReps C G σ env vs ds → Reps C (Pu.frz G H σ env) vs ds
  | _, _, .nil => .nil
  | _, _, .cons h t => .cons (h.frz L) (BReps.frz L t)
/-- behind the call: thawed -/
theorem LOk.thaw_ext {G H G' H' : Hp} {σ : St} {env : Env} {p : Pen} (L : LOk C G H σ env p) (x : Ext C (Pu.frz G H σ env) H G' H') : Ext C G H (Pu.thaw G' σ env) H' := by
  refine ⟨fun a o e => ?_, fun a o e => ?_, fun a o e => ?_, x.kee, x.fre, x.tab⟩
  · by_cases c : Own σ env a
    · rw [thaw_own c] at e
      cases e
    · rw [thaw_not c] at e
      exact x.sub a o e
  · have c : ¬ Own σ env a := fun c => by
      rw [(L.own_at c).1] at e
      cases e
    rw [thaw_not c]
    exact x.gro a o (L.frz_gro a o e)
  · by_cases c : Own σ env a
    · rw [thaw_own c] at e
      cases e
    · rw [thaw_not c] at e
      rcases x.new a o e with z | z
      · rw [frz_not c] at z
        exact .inl z
      · exact .inr z
theorem LOk.thaw_pen {G H G' H' : Hp} {σ : St} {env : Env} {p q : Pen} (L : LOk C G H σ env p) (h : PenAt C G' H' q) : PenAt C (Pu.thaw G' σ env) H' q := fun a e => by
  obtain ⟨n, h1, h2⟩ := h a e
  obtain ⟨_, _, h4⟩ := L.pen a e
  refine ⟨?_, h1, ?_⟩
  · by_cases c : Own σ env a
    · exact thaw_own c
    · rw [thaw_not c]
      exact n
  · have c : ¬ Own σ env C.pl := fun c => by
      rw [(L.own_at c).1] at h4
      cases h4
    rw [thaw_not c]
    exact h2
theorem LOk.thaw_notL {G H G' H' : Hp} {σ : St} {env : Env} {p : Pen} (L : LOk C G H σ env p) (x : Ext C (Pu.frz G H σ env) H G' H') : NotL G' (Pu.thaw G' σ env) := fun a o e n => by
  have c : ¬ Own σ env a := fun c => by
    obtain ⟨_, vs, h2⟩ := L.own_at c
    have h3 := x.gro a (.lst vs) (by rw [frz_own c]; exact h2)
    rw [h3] at e
    exact n vs (Option.some.inj e).symm
  rw [thaw_not c]
  exact e
def mFnB (m : FM) (a : AM) : EM := fun env p => (a env p).bind fun ds q => (m ds q).bind fun d q2 => if d.noL = true then .ok d q2 else .bad
def Err.noL (e : Err) : Bool := D.noLf e.fs
theorem pm_callB (F : Fn C X.prog X.w X.base gd x k n m) (w : Wk X C W gd' j) (hk : k ≤ j) (hgd : gd = true → gd' = true) (ha : PA X (e :: es) (rAB C W a)) (hl : ALen a n) (he0 : ∀ ds q er q2, m ds q = .err er q2 → er.noL = true) (hg : Gl X x := by rfl) (hdb : (x == ("__debug__" : Str)) = false := by decide)
    (he : starEach (e :: es) X.env = (false, eval e X.env) :: starEach es X.env := by rfl) (hpl : (backTo pos (starEach es X.env)).any (·.1) = false := by rfl) : PE X (.Call (.Name x p) (e :: es) [] pos) (rE C W (mFnB m a)) := by
  obtain ⟨f, fd, ps, h1, h2, h3, h4, F⟩ := F.ex
  refine ⟨fun pins s σ H Q I ⟨G, env, p0, L, o⟩ => ?_⟩
  have hm1 : X.mg x = some (.ref f) := by rw [← w.mg]; exact h1
  rw [w.K] at h2 h3 F
  rw [w.mg] at F
  refine wpAny_Call_Name_kw (ld_glob I hg hm1 ?_ hdb)
  have o2 := o.bind
  cases ea : a env p0 with
  | bad =>
    rw [ea] at o2
    exact o2.elim
  | err er q =>
    have z : rAB C W a σ H (fun _ _ => False) := ⟨G, env, p0, L, by rw [ea] at o2 ⊢; exact o2⟩
    refine PySem.W.callWith_K (h₀ := X.base) I.ok.mod.kin h2 (thn (ha.run pos pins s σ H _ I z) fun us s1 ⟨vs, H1, I1, r, q⟩ => q.elim) he hpl
  | ok ds q =>
    have lds := hl _ _ _ _ ea
    rw [ea] at o2
    have z : rAB C W a σ H (fun vs H1 => spM C m n vs H1 Q (fun cls d H' => W cls d σ H')) := ⟨G, env, p0, L, by
      rw [ea]
      intro vs G1 H1 x1 y1 r1
      have L1 := L.step x1 y1
      have o3 : OutP (m ds q) _ _ := OutP.bind o2
      refine ⟨Pu.frz G1 H1 σ env, ds, q, by rw [r1.length]; exact lds, L1.frz_sub, x1.tab, L1.frz_nt, L1.frz_pen, r1.frz L1, ?_⟩
      cases em : m ds q with
      | bad =>
        rw [em] at o3
        exact o3
      | err er q2 =>
        rw [em] at o3
        intro cls dd G2 H2 x2 y2 r2
        have nl := he0 ds q er q2 em
        refine o3 cls dd _ H2 (x1.trans (L1.thaw_ext x2)) (L1.thaw_pen y2) ?_
        obtain ⟨cA, c1, c2, c3⟩ := r2
        refine ⟨cA, c1, c2, c3.imp id fun ⟨b, fvs, b1, b2, b3⟩ => ⟨b, fvs, b1, L1.thaw_notL x2 _ _ b2 (fun _ z => by cases z), b3.noL (L1.thaw_notL x2) nl⟩⟩
      | ok d q2 =>
        rw [em] at o3
        intro v G2 H2 x2 y2 r2
        have o4 : OutP (if d.noL = true then .ok d q2 else .bad) _ _ := o3
        split at o4
        · rename_i c
          exact o4 v _ H2 (x1.trans (L1.thaw_ext x2)) (L1.thaw_pen y2) (r2.noL (L1.thaw_notL x2) c)
        · exact o4.elim⟩
    refine PySem.W.callWith_K (h₀ := X.base) I.ok.mod.kin h2 (thn (ha.run pos pins s σ H _ I z) fun us s1 ⟨vs, H1, I1, r, q⟩ => ⟨I1.kIn, ?_⟩) he hpl
    exact run_fnA F (w.room.mono hk) (fun c => w.gd (hgd c)) h3 (fun er s' c => w.tk er s' (XE.of_call I1 (fun cls d H2 h => h) c)) I1 r q
end
end Pu
end

section
set_option maxHeartbeats 2000000
namespace Pu
open PySem PySem.Spec PyProof.Rows L2

/-! ### what is walked -/
/-- it stands through the loop: frozen, or (fz = false) kept by all steps -/
def Stay (C : Ctx) (fz : Bool) (G H : Hp) (a : Addr) (o : HO) : Prop := G a = some o ∨ (fz = false ∧ H a = some o ∧ C.pa ≠ some a)
def Kept (C : Ctx) (fz : Bool) (H H' : Hp) : Prop := fz = false → ∀ a o, H a = some o → C.pa ≠ some a → (∀ ps, o ≠ .tbl ps) → H' a = some o
theorem Stay.at {C : Ctx} {fz : Bool} {G H G' H' : Hp} {a : Addr} {o : HO} (s : Stay C fz G H a o) (h1 : Sub G G') (h2 : Sub G' H') (k : Kept C fz H H') (n : ∀ ps, o ≠ .tbl ps) : H' a = some o := by
  rcases s with s | ⟨e, s, p⟩
  · exact h2 _ _ (h1 _ _ s)
  · exact k e a o s p n
def ItOk (C : Ctx) (fz : Bool) (G H : Hp) (J : It) (ds : List D) : Prop := ∃ (Gw : Hp → Prop) (Y : Nat → Hp → V → Hp → Prop), Walk J ds.length Gw Y ∧
  (∀ G' H', Sub G G' → Sub G' H' → Kept C fz H H' → Gw H') ∧ ∀ i d G' H' x H'', ds[i]? = some d → Sub G G' → Sub G' H' → Y i H' x H'' → ∃ G'', Alc G' H' G'' H'' ∧ Rep C G'' x d
def rI (C : Ctx) (W : WX) (fz : Bool) (m : AM) : TI := fun σ H R => ∃ G env p, LOk C G H σ env p ∧
  OutP (m env p) (fun ds q => ∀ J G' H', Ext C G H G' H' → PenAt C G' H' q → ItOk C fz G' H' J ds → R J H') (ErrP C W G H σ)
section
variable {C : Ctx} {fz : Bool} {G H : Hp} {K : PySem.W.Frag} {a b : Addr} {vs ws : List V} {ds es : List D}
theorem ItOk.thaw {J : It} (h : ItOk C true G H J ds) : ItOk C fz G H J ds := by
  obtain ⟨Gw, Y, w, h1, h2⟩ := h
  exact ⟨Gw, Y, w, fun G' H' s1 s2 _ => h1 G' H' s1 s2 (fun e => by cases e), h2⟩
theorem it_list (s : Stay C fz G H a (.lst vs)) (r : Reps C G vs ds) : ItOk C fz G H (Itl K a) ds := by
  have w := walk_list (K := K) (a := a) (xs := vs)
  rw [r.length] at w
  refine ⟨_, _, w, fun G' H' s1 s2 k => SqL.of (s.at s1 s2 k fun _ z => by cases z), fun i d G' H' x H'' hd s1 s2 y => ?_⟩
  obtain ⟨e1, e2⟩ := y
  obtain ⟨d', h1, h2⟩ := r.getL e2
  rw [hd] at h1
  cases h1
  subst e1
  exact ⟨G', Alc.refl s2, h2.mono s1⟩
theorem it_tup (s : Stay C fz G H a (.tup vs)) (r : Reps C G vs ds) : ItOk C fz G H (Itt K a) ds := by
  have w := walk_tup (K := K) (a := a) (xs := vs)
  rw [r.length] at w
  refine ⟨_, _, w, fun G' H' s1 s2 k => SqT.of (s.at s1 s2 k fun _ z => by cases z), fun i d G' H' x H'' hd s1 s2 y => ?_⟩
  obtain ⟨e1, e2⟩ := y
  obtain ⟨d', h1, h2⟩ := r.getL e2
  rw [hd] at h1
  cases h1
  subst e1
  exact ⟨G', Alc.refl s2, h2.mono s1⟩
def rgN (lo : Int) (n : Nat) : List D := (List.range n).map fun i => D.int (lo + (i : Nat))
theorem rgN_len (lo : Int) (n : Nat) : (rgN lo n).length = n := by
  unfold rgN
  rw [List.length_map, List.length_range]
theorem it_range {lo : Int} {n : Nat} : ItOk C fz G H (Itr lo n) (rgN lo n) := by
  have w := walk_range (lo := lo) (n := n)
  rw [← rgN_len lo n] at w
  rw [rgN_len lo n] at w
  refine ⟨fun _ => True, YFn fun i => .int (lo + i), by rw [rgN_len]; exact w, fun _ _ _ _ _ => trivial, fun i d G' H' x H'' hd s1 s2 y => ?_⟩
  obtain ⟨e1, e2⟩ := y
  subst e1 e2
  unfold rgN at hd
  rw [List.getElem?_map] at hd
  cases e : (List.range n)[i]? with
  | none =>
    rw [e] at hd
    cases hd
  | some j =>
    rw [e] at hd
    cases hd
    have z := List.getElem?_eq_some_iff.mp e
    obtain ⟨z1, z2⟩ := z
    rw [List.getElem_range] at z2
    subst z2
    exact ⟨G', Alc.refl s2, .int _⟩
def rgC (lo c : Int) (n : Nat) : List D := (List.range n).map fun i => D.int (lo + (i : Nat) * c)
theorem rgC_len (lo c : Int) (n : Nat) : (rgC lo c n).length = n := by
  unfold rgC
  rw [List.length_map, List.length_range]
theorem it_rangeC {lo c : Int} {n : Nat} : ItOk C fz G H (Itc lo c n) (rgC lo c n) := by
  refine ⟨fun _ => True, YFn fun i => .int (lo + (i : Nat) * c), by rw [rgC_len]; exact walk_rangeC, fun _ _ _ _ _ => trivial, fun i d G' H' x H'' hd s1 s2 y => ?_⟩
  obtain ⟨e1, e2⟩ := y
  subst e1 e2
  unfold rgC at hd
  rw [List.getElem?_map] at hd
  cases e : (List.range n)[i]? with
  | none =>
    rw [e] at hd
    cases hd
  | some j =>
    rw [e] at hd
    cases hd
    obtain ⟨z1, z2⟩ := List.getElem?_eq_some_iff.mp e
    rw [List.getElem_range] at z2
    subst z2
    exact ⟨G', Alc.refl s2, .int _⟩
def zipD (ds es : List D) : List D := (ds.zip es).map fun p => D.tup [p.1, p.2]
theorem zipD_len (ds es : List D) : (zipD ds es).length = min ds.length es.length := by
  unfold zipD
  rw [List.length_map, List.length_zip]
theorem pair_rep {xs ys : Nat → Option V} {i : Nat} {d e : D} {G' H' H'' : Hp} {x : V} (s2 : Sub G' H') (hx : ∀ v, xs i = some v → Rep C G' v d) (hy : ∀ v, ys i = some v → Rep C G' v e) (y : YPair xs ys i H' x H'') : ∃ G'', Alc G' H' G'' H'' ∧ Rep C G'' x (.tup [d, e]) := by
  obtain ⟨T, u, v, rfl, hT, rfl, h1, h2⟩ := y
  have al : Alc G' H' (upd G' T (.tup [u, v])) (upd H' T (.tup [u, v])) := Alc.put s2 hT
  exact ⟨_, al, .tup upd_same (.cons ((hx _ h1).mono al.gro) (.cons ((hy _ h2).mono al.gro) .nil))⟩
theorem zip_at {ds es : List D} {i : Nat} {d : D} (h : (zipD ds es)[i]? = some d) : ∃ x y, ds[i]? = some x ∧ es[i]? = some y ∧ d = .tup [x, y] := by
  unfold zipD at h
  rw [List.getElem?_map] at h
  cases e : (ds.zip es)[i]? with
  | none =>
    rw [e] at h
    cases h
  | some p =>
    rw [e] at h
    cases h
    obtain ⟨h1, h2⟩ := List.getElem?_zip_eq_some.mp e
    exact ⟨p.1, p.2, h1, h2, rfl⟩
theorem rep_at {vs : List V} {ds : List D} {G' : Hp} (r : Reps C G vs ds) (s1 : Sub G G') {i : Nat} {d : D} (hd : ds[i]? = some d) : ∀ v, vs[i]? = some v → Rep C G' v d := fun v hv => by
  obtain ⟨d', h1, h2⟩ := r.getL hv
  rw [hd] at h1
  cases h1
  exact h2.mono s1
theorem it_zipL (s : Stay C fz G H a (.lst vs)) (t : Stay C fz G H b (.lst ws)) (r : Reps C G vs ds) (q : Reps C G ws es) : ItOk C fz G H (Itz K a b) (zipD ds es) := by
  have w := walk_zip (K := K) (a := a) (b := b) (xs := vs) (ys := ws) (n := (zipD ds es).length) (by rw [zipD_len, r.length, q.length])
  refine ⟨_, _, w, fun G' H' s1 s2 k => ⟨SqL.of (s.at s1 s2 k fun _ z => by cases z), SqL.of (t.at s1 s2 k fun _ z => by cases z)⟩, fun i d G' H' x H'' hd s1 s2 y => ?_⟩
  obtain ⟨d1, d2, h1, h2, rfl⟩ := zip_at hd
  exact pair_rep s2 (rep_at r s1 h1) (rep_at q s1 h2) y
theorem walk_zipT {n : Nat} {xs ys : List V} (hn : n = min xs.length ys.length) : Walk (RZ.ItzT K a b) n (fun H => SqT K H a xs ∧ SqT K H b ys) (YPair (fun i => xs[i]?) (fun i => ys[i]?)) := by
  subst hn
  refine ⟨fun i H hi q => ?_, fun H q => ⟨xs, ys, q.1, q.2, by omega⟩, fun i H v H' hi q y => ?_⟩
  · have h1 : i < xs.length := by omega
    have h2 : i < ys.length := by omega
    exact ⟨xs, ys, xs[i], ys[i], q.1, q.2, List.getElem?_eq_getElem h1, List.getElem?_eq_getElem h2⟩
  · obtain ⟨T, x, z, h1, h2, h3, h4, h5⟩ := y
    exact ⟨T, x, z, h1, h2, h3, h4 xs q.1, h5 ys q.2⟩
theorem it_zipT (s : Stay C fz G H a (.tup vs)) (t : Stay C fz G H b (.tup ws)) (r : Reps C G vs ds) (q : Reps C G ws es) : ItOk C fz G H (RZ.ItzT K a b) (zipD ds es) := by
  have w := walk_zipT (K := K) (a := a) (b := b) (xs := vs) (ys := ws) (n := (zipD ds es).length) (by rw [zipD_len, r.length, q.length])
  refine ⟨_, _, w, fun G' H' s1 s2 k => ⟨SqT.of (s.at s1 s2 k fun _ z => by cases z), SqT.of (t.at s1 s2 k fun _ z => by cases z)⟩, fun i d G' H' x H'' hd s1 s2 y => ?_⟩
  obtain ⟨d1, d2, h1, h2, rfl⟩ := zip_at hd
  exact pair_rep s2 (rep_at r s1 h1) (rep_at q s1 h2) y
def enumD (ds : List D) : List D := zipD (rgN 0 ds.length) ds
theorem it_enum (s : Stay C fz G H a (.lst vs)) (r : Reps C G vs ds) : ItOk C fz G H (Ite K a) (enumD ds) := by
  have w := walk_enum (K := K) (a := a) (xs := vs)
  have e : (enumD ds).length = vs.length := by
    unfold enumD
    rw [zipD_len, rgN_len, r.length, Nat.min_self]
  rw [← e] at w
  refine ⟨_, _, w, fun G' H' s1 s2 k => SqL.of (s.at s1 s2 k fun _ z => by cases z), fun i d G' H' x H'' hd s1 s2 y => ?_⟩
  obtain ⟨d1, d2, h1, h2, rfl⟩ := zip_at hd
  refine pair_rep s2 (fun v hv => ?_) (rep_at r s1 h2) y
  cases hv
  unfold rgN at h1
  rw [List.getElem?_map] at h1
  cases ei : (List.range ds.length)[i]? with
  | none =>
    rw [ei] at h1
    cases h1
  | some j =>
    rw [ei] at h1
    cases h1
    obtain ⟨z1, z2⟩ := List.getElem?_eq_some_iff.mp ei
    rw [List.getElem_range] at z2
    subst z2
    show Rep C G' (.int (i : Int)) (.int (0 + (i : Int)))
    rw [Int.zero_add]
    exact .int _
theorem it_rev (s : Stay C fz G H a (.lst vs)) (r : Reps C G vs ds) : ItOk C fz G H (Itv K a vs.length) ds.reverse := by
  have w := walk_rev (K := K) (a := a) (xs := vs)
  have e : ds.reverse.length = vs.length := by rw [List.length_reverse, r.length]
  rw [← e] at w
  rw [e] at w
  refine ⟨_, _, by rw [e]; exact w, fun G' H' s1 s2 k => SqL.of (s.at s1 s2 k fun _ z => by cases z), fun i d G' H' x H'' hd s1 s2 y => ?_⟩
  obtain ⟨e1, e2⟩ := y
  subst e1
  have hi : i < ds.length := by
    have z := (List.getElem?_eq_some_iff.mp hd).1
    rw [List.length_reverse] at z
    exact z
  rw [List.getElem?_reverse hi, ← r.length] at hd
  exact ⟨G', Alc.refl s2, rep_at r s1 hd x e2⟩
end

section
variable {X : Cx} {C : Ctx} {W : WX} {fz : Bool} {tg l e e2 e3 : Expr} {m m2 m3 : EM} {a : AM} {pos p : Pos}
theorem _root_.L2.PI.of {t t' : TI} (h : PI X tg l t) (i : ∀ σ H R, t' σ H R → t σ H R) : PI X tg l t' := ⟨fun pins s σ H R I z => h.run pins s σ H R I (i _ _ _ z)⟩
def mIt (m : EM) : AM := fun env p => (m env p).bind fun d q => match d with
  | .lst xs => .ok xs q
  | .tup xs => .ok xs q
  | _ => .bad
theorem BRep.stay {G H : Hp} {σ : St} {env : Env} {q : Pen} {v : V} {ds : List D} (h : BRep C G σ env v (.lst ds)) (L : LOk C G H σ env q) : ∃ b vs, v = .ref b ∧ Stay C false G H b (.lst vs) ∧ Reps C G vs ds := by
  rcases h with h | ⟨i, es, a, e1, e2, e3, e4⟩
  · cases h with
    | lst h r => exact ⟨_, _, rfl, .inl h, r⟩
  · cases e2
    obtain ⟨b, vs, h1, h2, h3, h4⟩ := L.own e4
    rw [e3] at h1
    cases h1
    refine ⟨a, vs, e1, .inr ⟨rfl, h2, fun z => ?_⟩, h4⟩
    obtain ⟨_, y, _⟩ := L.pen a z
    rw [h2] at y
    cases y
/-- a list or a tuple, frozen -/
theorem im_seq (h : PE X l (rE C W m)) : PI X tg l (rI C W true (mIt m)) := ⟨fun pins s σ H R I ⟨G, env, p, L, o⟩ => by
  have o2 := o.bind
  cases em : m env p with
  | bad =>
    rw [em] at o2
    exact o2.elim
  | err er q =>
    rw [em] at o2
    refine (pi_list (tg := tg) (h.of (t' := fun σ0 H0 Q => σ0 = σ ∧ H0 = H) fun σ0 H0 Q ⟨h1, h2⟩ => by subst h1 h2; exact ⟨G, env, p, L, by rw [em]; exact o2⟩)).run pins s σ H R I ⟨rfl, rfl⟩
  | ok d q =>
    rw [em] at o2
    cases d with
    | lst xs =>
      exact (pi_list (tg := tg) h).run pins s σ H R I ⟨G, env, p, L, by
        rw [em]
        intro v G' H' x y r
        cases r with
        | lst hG rs => exact ⟨_, rfl, ⟨_, SqL.of (x.sub _ _ hG)⟩, o2 _ G' H' x y (it_list (.inl hG) rs)⟩⟩
    | tup xs =>
      exact (pi_tup (tg := tg) h).run pins s σ H R I ⟨G, env, p, L, by
        rw [em]
        intro v G' H' x y r
        cases r with
        | tup hG rs => exact ⟨_, rfl, ⟨_, SqT.of (x.sub _ _ hG)⟩, o2 _ G' H' x y (it_tup (.inl hG) rs)⟩⟩
    | _ => exact o2.elim⟩
/-- a list of the frame's own may be walked by what does not change it -/
theorem im_seqB (h : PE X l (rB C W m)) : PI X tg l (rI C W false (mIt m)) := ⟨fun pins s σ H R I ⟨G, env, p, L, o⟩ => by
  have o2 := o.bind
  cases em : m env p with
  | bad =>
    rw [em] at o2
    exact o2.elim
  | err er q =>
    rw [em] at o2
    refine (pi_list (tg := tg) (h.of (t' := fun σ0 H0 Q => σ0 = σ ∧ H0 = H) fun σ0 H0 Q ⟨h1, h2⟩ => by subst h1 h2; exact ⟨G, env, p, L, by rw [em]; exact o2⟩)).run pins s σ H R I ⟨rfl, rfl⟩
  | ok d q =>
    rw [em] at o2
    cases d with
    | lst xs =>
      exact (pi_list (tg := tg) h).run pins s σ H R I ⟨G, env, p, L, by
        rw [em]
        intro v G' H' x y r
        obtain ⟨b, vs, rfl, st, rs⟩ := r.stay (L.step x y)
        obtain ⟨b2, vs2, e1, h2, h3⟩ := r.lst (L.step x y)
        cases e1
        exact ⟨_, rfl, ⟨_, SqL.of h2⟩, o2 _ G' H' x y (it_list st rs)⟩⟩
    | tup xs =>
      exact (pi_tup (tg := tg) h).run pins s σ H R I ⟨G, env, p, L, by
        rw [em]
        intro v G' H' x y r
        obtain ⟨b, vs, rfl, hG, rs⟩ := r.tup
        exact ⟨_, rfl, ⟨_, SqT.of (x.sub _ _ hG)⟩, o2 _ G' H' x y (it_tup (.inl hG) rs)⟩⟩
    | _ => exact o2.elim⟩
theorem im_thaw (h : PI X tg l (rI C W true a)) : PI X tg l (rI C W fz a) := h.of fun σ H R ⟨G, env, p, L, o⟩ => ⟨G, env, p, L, o.imp (fun ds q z J G' H' x y it => z J G' H' x y it.thaw) fun _ _ z => z⟩
def mRng1 (m : EM) : AM := fun env p => (m env p).bind fun d q => match d with
  | .int j => if -(2 ^ 62) ≤ j ∧ j < 2 ^ 62 then .ok (rgN 0 j.toNat) q else .bad
  | _ => .bad
theorem im_range1 (hm : X.mg "range" = none) (h : PE X e (rB C W m)) (hg : Gl X "range" := by rfl) (hs : starEach [e] X.env = [(false, eval e X.env)] := by rfl) : PI X tg (.Call (.Name "range" p) [e] [] pos) (rI C W fz (mRng1 m)) :=
  (pi_range1 hg hm (pa_cons h pa_nil hs) hs).of fun σ H R ⟨G, env, p, L, o⟩ => by
    refine ⟨G, env, p, L, o.bind.imp (fun d q z v G1 H1 x1 y1 r1 => ?_) fun _ _ z => z⟩
    cases d with
    | int j =>
      have z1 : OutP (if -(2 ^ 62) ≤ j ∧ j < 2 ^ 62 then Out.ok (rgN 0 j.toNat) q else .bad) _ _ := z
      split at z1
      · rename_i c
        exact ⟨j, by rw [r1.int], c.1, c.2, z1 _ G1 H1 x1 y1 it_range⟩
      · exact z1.elim
    | _ => exact z.elim
def mRng2 (m m2 : EM) : AM := fun env p => (m env p).bind fun d q => (m2 env q).bind fun d2 q2 => match d, d2 with
  | .int i, .int j => if -(2 ^ 62) ≤ i ∧ i < 2 ^ 62 ∧ -(2 ^ 62) ≤ j ∧ j < 2 ^ 62 then .ok (rgN i (j - i).toNat) q2 else .bad
  | _, _ => .bad
theorem im_range2 (hm : X.mg "range" = none) (h : PE X e (rB C W m)) (h2 : PE X e2 (rB C W m2)) (hg : Gl X "range" := by rfl) (hs : starEach [e, e2] X.env = [(false, eval e X.env), (false, eval e2 X.env)] := by rfl) (hs2 : starEach [e2] X.env = [(false, eval e2 X.env)] := by rfl) : PI X tg (.Call (.Name "range" p) [e, e2] [] pos) (rI C W fz (mRng2 m m2)) :=
  (pi_range2 hg hm (pa_cons h (pa_cons h2 pa_nil hs2) (by rw [hs, hs2])) hs hs2).of fun σ H R ⟨G, env, p, L, o⟩ => by
    refine ⟨G, env, p, L, o.bind.imp (fun d q z v G1 H1 x1 y1 r1 => ⟨G1, env, q, L.step x1 y1, z.bind.imp (fun d2 q2 z2 v2 G2 H2 x2 y2 r2 => ?_) fun _ _ z => z.step x1⟩) fun _ _ z => z⟩
    cases d with
    | int i =>
      cases d2 with
      | int j =>
        have z1 : OutP (if -(2 ^ 62) ≤ i ∧ i < 2 ^ 62 ∧ -(2 ^ 62) ≤ j ∧ j < 2 ^ 62 then Out.ok (rgN i (j - i).toNat) q2 else .bad) _ _ := z2
        split at z1
        · rename_i c
          exact ⟨i, j, by rw [r1.int, r2.int], c, z1 _ G2 H2 (x1.trans x2) y2 it_range⟩
        · exact z1.elim
      | _ => exact z2.elim
    | _ => exact z2.elim
/-- range(a, b, -1) -/
def mRngD (m m2 m3 : EM) : AM := fun env p => (m env p).bind fun d q => (m2 env q).bind fun d2 q2 => (m3 env q2).bind fun d3 q3 => match d, d2, d3 with
  | .int i, .int j, .int c => if -(2 ^ 62) ≤ i ∧ i < 2 ^ 62 ∧ -(2 ^ 62) ≤ j ∧ j < 2 ^ 62 ∧ c = -1 then .ok (rgC i (-1) (i - j).toNat) q3 else .bad
  | _, _, _ => .bad
theorem im_rangeD (hm : X.mg "range" = none) (h : PE X e (rB C W m)) (h2 : PE X e2 (rB C W m2)) (h3 : PE X e3 (rB C W m3)) (hg : Gl X "range" := by rfl) (hs : starEach [e, e2, e3] X.env = (false, eval e X.env) :: starEach [e2, e3] X.env := by rfl) (hs2 : starEach [e2, e3] X.env = (false, eval e2 X.env) :: starEach [e3] X.env := by rfl) (hs3 : starEach [e3] X.env = (false, eval e3 X.env) :: starEach [] X.env := by rfl) (hpl : (backTo pos (starEach [e2, e3] X.env)).any (·.1) = false := by rfl) :
    PI X tg (.Call (.Name "range" p) [e, e2, e3] [] pos) (rI C W fz (mRngD m m2 m3)) :=
  (pi_range3 hg hm (pa_cons h (pa_cons h2 (pa_cons h3 pa_nil hs3) hs2) hs) hs hpl).of fun σ H R ⟨G, env, p, L, o⟩ => by
    refine ⟨G, env, p, L, o.bind.imp (fun d q z v G1 H1 x1 y1 r1 => ⟨G1, env, q, L.step x1 y1, z.bind.imp (fun d2 q2 z2 v2 G2 H2 x2 y2 r2 => ⟨G2, env, q2, (L.step x1 y1).step x2 y2, z2.bind.imp (fun d3 q3 z3 v3 G3 H3 x3 y3 r3 => ?_) fun _ _ z => z.step (x1.trans x2)⟩) fun _ _ z => z.step x1⟩) fun _ _ z => z⟩
    cases d with
    | int i =>
      cases d2 with
      | int j =>
        cases d3 with
        | int c =>
          have z1 : OutP (if -(2 ^ 62) ≤ i ∧ i < 2 ^ 62 ∧ -(2 ^ 62) ≤ j ∧ j < 2 ^ 62 ∧ c = -1 then Out.ok (rgC i (-1) (i - j).toNat) q3 else .bad) _ _ := z3
          split at z1
          · rename_i k
            obtain ⟨k1, k2, k3, k4, k5⟩ := k
            subst k5
            exact ⟨i, j, -1, (i - j).toNat, by rw [r1.int, r2.int, r3.int], RgC.neg k1 k2 k3 k4, z1 _ G3 H3 ((x1.trans x2).trans x3) y3 it_rangeC⟩
          · exact z1.elim
        | _ => exact z3.elim
      | _ => exact z3.elim
    | _ => exact z3.elim
/-- zip of two lists, of two tuples -/
def kZip : List D → Option (List D)
  | [.lst xs, .lst ys] => some (zipD xs ys)
  | [.tup xs, .tup ys] => some (zipD xs ys)
  | _ => none
def mZip (a : AM) : AM := fun env p => (a env p).bind fun ds q => match kZip ds with
  | some z => .ok z q
  | none => .bad
theorem im_zip {elts : List Expr} {kk : Nat} {tpos : Pos} (hm : X.mg "zip" = none) (h : PA X [e, e2] (rA C W a)) (hg : Gl X "zip" := by rfl) (hs : starEach [e, e2] X.env = (false, eval e X.env) :: starEach [e2] X.env := by rfl) (hpl : (backTo pos (starEach [e2] X.env)).any (·.1) = false := by rfl) :
    PI X (.Tuple elts kk tpos) (.Call (.Name "zip" p) [e, e2] [] pos) (rI C W fz (mZip a)) := (RZ.pi_zipA hg hm h hs hpl).of fun σ H R ⟨G, env, p, L, o⟩ => by
  refine ⟨G, env, p, L, o.bind.imp (fun ds q z vs G1 H1 x1 y1 r1 => ?_) fun _ _ z => z⟩
  unfold kZip at z
  split at z
  · rename_i u hu
    split at hu
    · cases hu
      cases r1 with
      | cons ra t =>
        cases t with
        | cons rb t =>
          cases t
          cases ra with
          | lst h1 q1 =>
            cases rb with
            | lst h2 q2 => exact ⟨_, _, _, _, rfl, .inl ⟨SqL.of (x1.sub _ _ h1), SqL.of (x1.sub _ _ h2), z _ G1 H1 x1 y1 (it_zipL (.inl h1) (.inl h2) q1 q2)⟩⟩
    · cases hu
      cases r1 with
      | cons ra t =>
        cases t with
        | cons rb t =>
          cases t
          cases ra with
          | tup h1 q1 =>
            cases rb with
            | tup h2 q2 => exact ⟨_, _, _, _, rfl, .inr ⟨SqT.of (x1.sub _ _ h1), SqT.of (x1.sub _ _ h2), z _ G1 H1 x1 y1 (it_zipT (.inl h1) (.inl h2) q1 q2)⟩⟩
    · cases hu
  · exact z.elim
theorem im_zipB {elts : List Expr} {kk : Nat} {tpos : Pos} (hm : X.mg "zip" = none) (h : PA X [e, e2] (rAB C W a)) (hg : Gl X "zip" := by rfl) (hs : starEach [e, e2] X.env = (false, eval e X.env) :: starEach [e2] X.env := by rfl) (hpl : (backTo pos (starEach [e2] X.env)).any (·.1) = false := by rfl) :
    PI X (.Tuple elts kk tpos) (.Call (.Name "zip" p) [e, e2] [] pos) (rI C W false (mZip a)) := (RZ.pi_zipA hg hm h hs hpl).of fun σ H R ⟨G, env, p, L, o⟩ => by
  refine ⟨G, env, p, L, o.bind.imp (fun ds q z vs G1 H1 x1 y1 r1 => ?_) fun _ _ z => z⟩
  have L1 := L.step x1 y1
  unfold kZip at z
  split at z
  · rename_i u hu
    split at hu
    · cases hu
      obtain ⟨v, w, rfl, ra, rb⟩ := r1.two
      obtain ⟨b1, v1, rfl, s1, q1⟩ := ra.stay L1
      obtain ⟨b2, v2, rfl, s2, q2⟩ := rb.stay L1
      exact ⟨_, _, _, _, rfl, .inl ⟨SqL.of (s1.at (Sub.refl _) L1.sub (fun _ _ _ h _ _ => h) fun _ z => by cases z), SqL.of (s2.at (Sub.refl _) L1.sub (fun _ _ _ h _ _ => h) fun _ z => by cases z), z _ G1 H1 x1 y1 (it_zipL s1 s2 q1 q2)⟩⟩
    · cases hu
      obtain ⟨v, w, rfl, ra, rb⟩ := r1.two
      obtain ⟨b1, v1, rfl, h1, q1⟩ := ra.tup
      obtain ⟨b2, v2, rfl, h2, q2⟩ := rb.tup
      exact ⟨_, _, _, _, rfl, .inr ⟨SqT.of (x1.sub _ _ h1), SqT.of (x1.sub _ _ h2), z _ G1 H1 x1 y1 (it_zipT (.inl h1) (.inl h2) q1 q2)⟩⟩
    · cases hu
  · exact z.elim
/-- enumerate of a list -/
def mEnum (m : EM) : AM := fun env p => (m env p).bind fun d q => match d with
  | .lst xs => .ok (enumD xs) q
  | _ => .bad
theorem im_enum {elts : List Expr} {kk : Nat} {tpos : Pos} (hm : X.mg "enumerate" = none) (h : PE X e (rE C W m)) (hg : Gl X "enumerate" := by rfl) (hs : starEach [e] X.env = [(false, eval e X.env)] := by rfl) :
    PI X (.Tuple elts kk tpos) (.Call (.Name "enumerate" p) [e] [] pos) (rI C W fz (mEnum m)) := (pi_enum hg hm (pa_cons h pa_nil hs) hs).of fun σ H R ⟨G, env, p, L, o⟩ => by
  refine ⟨G, env, p, L, o.bind.imp (fun d q z v G1 H1 x1 y1 r1 => ?_) fun _ _ z => z⟩
  cases d with
  | lst xs =>
    cases r1 with
    | lst h1 q1 => exact ⟨_, _, rfl, SqL.of (x1.sub _ _ h1), z _ G1 H1 x1 y1 (it_enum (.inl h1) q1)⟩
  | _ => exact z.elim
theorem im_enumB {elts : List Expr} {kk : Nat} {tpos : Pos} (hm : X.mg "enumerate" = none) (h : PE X e (rB C W m)) (hg : Gl X "enumerate" := by rfl) (hs : starEach [e] X.env = [(false, eval e X.env)] := by rfl) :
    PI X (.Tuple elts kk tpos) (.Call (.Name "enumerate" p) [e] [] pos) (rI C W false (mEnum m)) := (pi_enum hg hm (pa_cons h pa_nil hs) hs).of fun σ H R ⟨G, env, p, L, o⟩ => by
  refine ⟨G, env, p, L, o.bind.imp (fun d q z v G1 H1 x1 y1 r1 => ?_) fun _ _ z => z⟩
  have L1 := L.step x1 y1
  cases d with
  | lst xs =>
    obtain ⟨b1, v1, rfl, s1, q1⟩ := r1.stay L1
    exact ⟨_, _, rfl, SqL.of (s1.at (Sub.refl _) L1.sub (fun _ _ _ h _ _ => h) fun _ z => by cases z), z _ G1 H1 x1 y1 (it_enum s1 q1)⟩
  | _ => exact z.elim
end
end Pu
end

section
set_option maxHeartbeats 2000000
namespace Pu
open PySem PySem.Spec PyProof.Rows L2

/-! ### targets -/
abbrev GM := D → Env → Option Env
abbrev GMs := List D → Env → Option Env
/-- the own lists behind are own lists before -/
def Less (σ' : St) (env' : Env) (σ : St) (env : Env) : Prop := ∀ (i : Nat) (ds : List D) (a : Addr), env'[i]? = some (.own ds) → σ'[i]? = some (some (.ref a)) → env[i]? = some (.own ds) ∧ σ[i]? = some (some (.ref a))
theorem Less.refl (σ : St) (env : Env) : Less σ env σ env := fun _ _ _ h1 h2 => ⟨h1, h2⟩
theorem Less.trans {σ σ1 σ2 : St} {env env1 env2 : Env} (a : Less σ2 env2 σ1 env1) (b : Less σ1 env1 σ env) : Less σ2 env2 σ env := fun i ds x h1 h2 => b i ds x (a i ds x h1 h2).1 (a i ds x h1 h2).2
/-- but for the slots in is nothing has changed -/
structure Same (is : List Nat) (σ' σ : St) : Prop where
  len : σ'.length = σ.length
  out : ∀ j, j ∉ is → σ'[j]? = σ[j]?
def rG (C : Ctx) (is : List Nat) (g : GM) : TG := fun v σ H Q => ∃ G env p d env', LOk C G H σ env p ∧ Rep C G v d ∧ g d env = some env' ∧
  ∀ σ', LOk C G H σ' env' p → Less σ' env' σ env → Same is σ' σ → Q σ' H
def rGs (C : Ctx) (is : List Nat) (g : GMs) : TGs := fun vs σ H Q => ∃ G env p ds env', LOk C G H σ env p ∧ Reps C G vs ds ∧ g ds env = some env' ∧
  ∀ σ', LOk C G H σ' env' p → Less σ' env' σ env → Same is σ' σ → Q σ' H
theorem _root_.L2.PG.of {X : Cx} {e : Expr} {t t' : TG} (h : PG X e t) (i : ∀ v σ H Q, t' v σ H Q → t v σ H Q) : PG X e t' := ⟨fun pins s σ H v u Q I r z => h.run pins s σ H v u Q I r (i _ _ _ _ z)⟩
theorem _root_.L2.PGs.of {X : Cx} {e : List Expr} {t t' : TGs} (h : PGs X e t) (i : ∀ v σ H Q, t' v σ H Q → t v σ H Q) : PGs X e t' := ⟨fun pins s σ H v u Q I r z => h.run pins s σ H v u Q I r (i _ _ _ _ z)⟩
section
variable {C : Ctx} {G H : Hp} {σ : St} {env : Env} {p : Pen}
theorem set_at {α : Type} {l : List α} {i j : Nat} {x y : α} (h : (l.set i x)[j]? = some y) : (j = i ∧ y = x) ∨ (j ≠ i ∧ l[j]? = some y) := by
  by_cases e : j = i
  · subst e
    obtain ⟨h1, h2⟩ := List.getElem?_eq_some_iff.mp h
    rw [List.getElem_set_self] at h2
    exact .inl ⟨rfl, h2.symm⟩
  · rw [List.getElem?_set_ne (fun z => e z.symm)] at h
    exact .inr ⟨e, h⟩
/-- a slot gets a frozen value -/
theorem LOk.setV (L : LOk C G H σ env p) (i : Nat) {v : V} {d : D} (r : Rep C G v d) : LOk C G H (σ.set i (some v)) (env.set i (.val d)) p := by
  refine ⟨L.sub, L.tab, L.pen, by rw [List.length_set, List.length_set, L.len], fun j x s h1 h2 => ?_, fun j k ds es a h1 h2 h3 h4 => ?_, L.nt⟩
  · rcases set_at h1 with ⟨e1, e2⟩ | ⟨e1, e2⟩
    · rcases set_at h2 with ⟨e3, e4⟩ | ⟨e3, e4⟩
      · subst e2 e4
        exact .val r
      · exact absurd e1 e3
    · rcases set_at h2 with ⟨e3, e4⟩ | ⟨e3, e4⟩
      · exact absurd e3 e1
      · exact L.slot j x s e2 e4
  · rcases set_at h1 with ⟨_, z⟩ | ⟨e1, h1⟩
    · cases z
    · rcases set_at h2 with ⟨_, z⟩ | ⟨e2, h2⟩
      · cases z
      · rcases set_at h3 with ⟨z, _⟩ | ⟨_, h3⟩
        · exact absurd z e1
        · rcases set_at h4 with ⟨z, _⟩ | ⟨_, h4⟩
          · exact absurd z e2
          · exact L.dis j k ds es a h1 h2 h3 h4
theorem Less.setV (i : Nat) {v : Option V} {d : D} : Less (σ.set i v) (env.set i (.val d)) σ env := fun j ds a h1 h2 => by
  rcases set_at h1 with ⟨_, z⟩ | ⟨e1, h1⟩
  · cases z
  · rcases set_at h2 with ⟨z, _⟩ | ⟨_, h2⟩
    · exact absurd z e1
    · exact ⟨h1, h2⟩
/-- a slot forgotten -/
theorem LOk.setU (L : LOk C G H σ env p) (i : Nat) {v : Option V} : LOk C G H (σ.set i v) (env.set i .un) p := by
  refine ⟨L.sub, L.tab, L.pen, by rw [List.length_set, List.length_set, L.len], fun j x s h1 h2 => ?_, fun j k ds es a h1 h2 h3 h4 => ?_, L.nt⟩
  · rcases set_at h1 with ⟨e1, e2⟩ | ⟨e1, e2⟩
    · rcases set_at h2 with ⟨e3, e4⟩ | ⟨e3, e4⟩
      · subst e4
        exact .un _
      · exact absurd e1 e3
    · rcases set_at h2 with ⟨e3, e4⟩ | ⟨e3, e4⟩
      · exact absurd e3 e1
      · exact L.slot j x s e2 e4
  · rcases set_at h1 with ⟨_, z⟩ | ⟨e1, h1⟩
    · cases z
    · rcases set_at h2 with ⟨_, z⟩ | ⟨e2, h2⟩
      · cases z
      · rcases set_at h3 with ⟨z, _⟩ | ⟨_, h3⟩
        · exact absurd z e1
        · rcases set_at h4 with ⟨z, _⟩ | ⟨_, h4⟩
          · exact absurd z e2
          · exact L.dis j k ds es a h1 h2 h3 h4
theorem Less.setU (i : Nat) {v : Option V} : Less (σ.set i v) (env.set i .un) σ env := fun j ds a h1 h2 => by
  rcases set_at h1 with ⟨_, z⟩ | ⟨e1, h1⟩
  · cases z
  · rcases set_at h2 with ⟨z, _⟩ | ⟨_, h2⟩
    · exact absurd z e1
    · exact ⟨h1, h2⟩
/-- a slot gets a list of the frame's own -/
theorem LOk.setO (L : LOk C G H σ env p) (i : Nat) {l : Addr} {vs : List V} {ds : List D} (h : H l = some (.lst vs)) (n : G l = none) (r : Reps C G vs ds) (f : ∀ (j : Nat) (es : List D), env[j]? = some (.own es) → σ[j]? ≠ some (some (.ref l))) : LOk C G H (σ.set i (some (.ref l))) (env.set i (.own ds)) p := by
  refine ⟨L.sub, L.tab, L.pen, by rw [List.length_set, List.length_set, L.len], fun j x s h1 h2 => ?_, fun j k ds es a h1 h2 h3 h4 => ?_, L.nt⟩
  · rcases set_at h1 with ⟨e1, e2⟩ | ⟨e1, e2⟩
    · rcases set_at h2 with ⟨e3, e4⟩ | ⟨e3, e4⟩
      · subst e2 e4
        exact .own h n r
      · exact absurd e1 e3
    · rcases set_at h2 with ⟨e3, e4⟩ | ⟨e3, e4⟩
      · exact absurd e3 e1
      · exact L.slot j x s e2 e4
  · rcases set_at h3 with ⟨z1, z2⟩ | ⟨e3, h3⟩
    · rcases set_at h4 with ⟨y1, y2⟩ | ⟨e4, h4⟩
      · rw [z1, y1]
      · cases z2
        rcases set_at h2 with ⟨z, _⟩ | ⟨_, h2⟩
        · exact absurd z e4
        · exact absurd h4 (f _ _ h2)
    · rcases set_at h4 with ⟨y1, y2⟩ | ⟨e4, h4⟩
      · cases y2
        rcases set_at h1 with ⟨z, _⟩ | ⟨_, h1⟩
        · exact absurd z e3
        · exact absurd h3 (f _ _ h1)
      · rcases set_at h1 with ⟨z, _⟩ | ⟨_, h1⟩
        · exact absurd z e3
        · rcases set_at h2 with ⟨z, _⟩ | ⟨_, h2⟩
          · exact absurd z e4
          · exact L.dis j k _ _ a h1 h2 h3 h4
end
def gNm (i : Nat) : GM := fun d env => some (env.set i (.val d))
def gsNil : GMs := fun ds env => match ds with
  | [] => some env
  | _ => none
def gsCons (g : GM) (gs : GMs) : GMs := fun ds env => match ds with
  | d :: r => (g d env).bind fun env' => gs r env'
  | [] => none
def gTp (gs : GMs) : GM := fun d env => match d with
  | .tup ds => gs ds env
  | _ => none
section
variable {X : Cx} {C : Ctx} {pos : Pos}
theorem gm_name (i : Nat) {x : Str} (hN : X.N.Nodup) (hi : X.N[i]? = some x := by rfl) (hx : Loc X.env.scope x := by first | exact Or.inl rfl | exact Or.inr rfl) (hf : X.fn x = true ∨ X.env.scope.names.lookup x = some .local := by first | exact .inl rfl | exact .inr rfl) : PG X (.Name x pos) (rG C [i] (gNm i)) :=
  (pg_name hN hi hx hf).of fun v σ H Q ⟨G, env, p, d, env', L, r, e, q⟩ => by
    cases e
    exact q _ (L.setV i r) (Less.setV i) ⟨List.length_set, fun j hj => List.getElem?_set_ne (fun z => hj (by rw [z]; exact List.mem_singleton.mpr rfl))⟩
theorem gms_nil : PGs X [] (rGs C [] gsNil) := pgs_nil.of fun vs σ H Q ⟨G, env, p, ds, env', L, r, e, q⟩ => by
  cases r with
  | nil =>
    cases e
    exact ⟨rfl, q σ L (Less.refl _ _) ⟨rfl, fun _ _ => rfl⟩⟩
  | cons _ _ => cases e
theorem gms_cons {e : Expr} {es : List Expr} {i1 i2 : List Nat} {g : GM} {gs : GMs} (h1 : PG X e (rG C i1 g)) (h2 : PGs X es (rGs C i2 gs)) (hs : (assignEach (e :: es) X.env).map (·.2) = assign e X.env :: (assignEach es X.env).map (·.2) := by rfl) : PGs X (e :: es) (rGs C (i1 ++ i2) (gsCons g gs)) :=
  (pgs_cons h1 h2 hs).of fun vs σ H Q ⟨G, env, p, ds, env', L, r, e, q⟩ => by
    cases r with
    | nil => cases e
    | @cons v d vs ds r1 r2 =>
      have e : (g d env).bind (fun env' => gs ds env') = some env' := e
      cases e1 : g d env with
      | none =>
        rw [e1] at e
        cases e
      | some env1 =>
        rw [e1] at e
        exact ⟨v, vs, rfl, G, env, p, d, env1, L, r1, e1, fun σ1 L1 l1 k1 => ⟨G, env1, p, ds, env', L1, r2, e, fun σ2 L2 l2 k2 => q σ2 L2 (l2.trans l1) ⟨k2.len.trans k1.len, fun j hj => by
          rw [List.mem_append, not_or] at hj
          rw [k2.out j hj.2, k1.out j hj.1]⟩⟩⟩
theorem gm_tup {es : List Expr} {k n : Nat} {is : List Nat} {gs : GMs} (hc : X.calm = true) (h : PGs X es (rGs C is gs)) (hl : ∀ ds env env', gs ds env = some env' → ds.length = n) (hn : (assignEach es X.env).length = n := by rfl) (hst : (assignEach es X.env).findIdx? (·.1) = none := by rfl) : PG X (.Tuple es k pos) (rG C is (gTp gs)) :=
  (pg_tup hc h hn hst).of fun v σ H Q ⟨G, env, p, d, env', L, r, e, q⟩ => by
    unfold gTp at e
    cases r with
    | @tup a vs ds h1 r1 => exact ⟨a, vs, rfl, SqT.of (L.sub _ _ h1), by rw [r1.length]; exact hl _ _ _ e, G, env, p, ds, env', L, r1, e, q⟩
    | _ => cases e
theorem gl0 : ∀ ds env env', gsNil ds env = some env' → ds.length = 0 := fun ds env env' h => by
  cases ds with
  | nil => rfl
  | cons _ _ => cases h
theorem gl {g : GM} {gs : GMs} {n : Nat} (h : ∀ ds env env', gs ds env = some env' → ds.length = n) : ∀ ds env env', gsCons g gs ds env = some env' → ds.length = n + 1 := fun ds env env' e => by
  cases ds with
  | nil => cases e
  | cons d r =>
    have e : (g d env).bind (fun env' => gs r env') = some env' := e
    cases e1 : g d env with
    | none =>
      rw [e1] at e
      cases e
    | some env1 =>
      rw [e1] at e
      rw [List.length_cons, h _ _ _ e]
end

/-! ### statements -/
inductive Res where
  | next (env : Env) (p : Pen)
  | ret (d : D) (p : Pen)
  | brk (env : Env) (p : Pen)
  | cnt (env : Env) (p : Pen)
  | err (e : Err) (env : Env) (p : Pen)
  | bad
abbrev SM := Env → Pen → Res
/-- a frame on its way: since the entry (G0, H0) nothing but the pen and tables turned, its own lists are new -/
structure SOk (C : Ctx) (G0 H0 G H : Hp) (σ : St) (env : Env) (p : Pen) : Prop where
  l : LOk C G H σ env p
  x : Ext C G0 H0 G H
  f : ∀ (i : Nat) (ds : List D) (a : Addr), env[i]? = some (.own ds) → σ[i]? = some (some (.ref a)) → H0 a = none
theorem SOk.step {C : Ctx} {G0 H0 G H G' H' : Hp} {σ : St} {env : Env} {p q : Pen} (S : SOk C G0 H0 G H σ env p) (x : Ext C G H G' H') (y : PenAt C G' H' q) : SOk C G0 H0 G' H' σ env q := ⟨S.l.step x y, S.x.trans x, S.f⟩
def ResP (C : Ctx) (W : WX) (G0 H0 G : Hp) (D : Ends) (r : Res) : Prop := match r with
  | .next env q => ∀ σ' G' H', SOk C G0 H0 G' H' σ' env q → Sub G G' → D.nx σ' H'
  | .ret d q => ∀ v G' H', Ext C G0 H0 G' H' → PenAt C G' H' q → Rep C G' v d → D.rt v H'
  | .brk env q => ∀ σ' G' H', SOk C G0 H0 G' H' σ' env q → Sub G G' → D.bk σ' H'
  | .cnt env q => ∀ σ' G' H', SOk C G0 H0 G' H' σ' env q → Sub G G' → D.ct σ' H'
  | .err e env q => ∀ cls dd σ' G' H', SOk C G0 H0 G' H' σ' env q → Sub G G' → ErrRep C G' H' cls dd e → W cls dd σ' H'
  | .bad => False
def rS (C : Ctx) (W : WX) (m : SM) : TS := fun D σ H => ∃ G0 H0 G env p, SOk C G0 H0 G H σ env p ∧ ResP C W G0 H0 G D (m env p)
theorem ResP.gro {C : Ctx} {W : WX} {G0 H0 G G1 : Hp} {D : Ends} {r : Res} (h : ResP C W G0 H0 G D r) (s : Sub G G1) : ResP C W G0 H0 G1 D r := by
  cases r with
  | next env q => exact fun σ' G' H' S x => h σ' G' H' S (s.trans x)
  | ret d q => exact h
  | brk env q => exact fun σ' G' H' S x => h σ' G' H' S (s.trans x)
  | cnt env q => exact fun σ' G' H' S x => h σ' G' H' S (s.trans x)
  | err e env q => exact fun cls dd σ' G' H' S x => h cls dd σ' G' H' S (s.trans x)
  | bad => exact h
/-- an expression's error as the block's -/
theorem ResP.errP {C : Ctx} {W : WX} {G0 H0 G H G1 : Hp} {D : Ends} {σ : St} {env : Env} {p q : Pen} {e : Err} (h : ResP C W G0 H0 G1 D (.err e env q)) (S : SOk C G0 H0 G H σ env p) (s1 : Sub G1 G) : ErrP C W G H σ e q := fun cls dd G' H' x y r => h cls dd σ G' H' (S.step x y) (s1.trans x.gro) r
def mNext : SM := fun env p => .next env p
def mSeq (a b : SM) : SM := fun env p => match a env p with
  | .next env' q => b env' q
  | r => r
def mBrk : SM := fun env p => .brk env p
def mCnt : SM := fun env p => .cnt env p
def mRetN : SM := fun _ p => .ret .non p
/-- with an expression's outcome -/
def _root_.Pu.Out.res {α : Type} (o : Out α) (env : Env) (k : α → Pen → Res) : Res := match o with
  | .ok a p => k a p
  | .err e p => .err e env p
  | .bad => .bad
theorem ResP.out {α : Type} {C : Ctx} {W : WX} {G0 H0 G H : Hp} {D : Ends} {σ : St} {env : Env} {p : Pen} {o : Out α} {k : α → Pen → Res} (h : ResP C W G0 H0 G D (o.res env k)) (S : SOk C G0 H0 G H σ env p) : OutP o (fun a q => ResP C W G0 H0 G D (k a q)) (ErrP C W G H σ) := by
  cases o with
  | ok a q => exact h
  | err e q => exact ResP.errP h S (Sub.refl _)
  | bad => exact h
def mRet (m : EM) : SM := fun env p => (m env p).res env fun d q => .ret d q
def mDrop (m : EM) : SM := fun env p => (m env p).res env fun d q => .next env q
def mIfS (t : TM) (a b : SM) : SM := fun env p => (t env p).res env fun k q => if k = true then a env q else b env q
def mSet (m : EM) (g : GM) : SM := fun env p => (m env p).res env fun d q => match g d env with
  | some env' => .next env' q
  | none => .bad
def mSetO (m : AM) (i : Nat) : SM := fun env p => (m env p).res env fun ds q => .next (env.set i (.own ds)) q
section
variable {X : Cx} {C : Ctx} {W : WX} {pos : Pos} {st : Stmt} {rest : List Stmt} {a b : SM} {e : Expr} {m : EM}
theorem sm_nil : PSs X [] (rS C W mNext) := pss_nil.of fun D σ H ⟨G0, H0, G, env, p, S, o⟩ => o σ G H S (Sub.refl _)
theorem rd_seq {D : Ends} {σ : St} {H : Hp} (h : rS C W (mSeq a b) D σ H) : tSeq (rS C W a) (rS C W b) D σ H := by
  obtain ⟨G0, H0, G, env, p, S, o⟩ := h
  refine ⟨G0, H0, G, env, p, S, ?_⟩
  unfold mSeq at o
  cases r : a env p with
  | next env' q =>
    rw [r] at o
    exact fun σ' G' H' S' s => ⟨G0, H0, G', env', q, S', o.gro s⟩
  | ret d q =>
    rw [r] at o
    exact o
  | brk env' q =>
    rw [r] at o
    exact o
  | cnt env' q =>
    rw [r] at o
    exact o
  | err e env' q =>
    rw [r] at o
    exact o
  | bad =>
    rw [r] at o
    exact o
theorem sm_cons (h1 : PS X st (rS C W a)) (h2 : PSs X rest (rS C W b)) : PSs X (st :: rest) (rS C W (mSeq a b)) := (pss_cons h1 h2).of fun _ _ _ h => rd_seq h
theorem sm_one (h1 : PS X st (rS C W a)) : PSs X [st] (rS C W a) := pss_one h1
theorem sm_pass : PS X (.Pass pos) (rS C W mNext) := ps_pass.of fun D σ H ⟨G0, H0, G, env, p, S, o⟩ => o σ G H S (Sub.refl _)
theorem sm_break : PS X (.Break pos) (rS C W mBrk) := ps_break.of fun D σ H ⟨G0, H0, G, env, p, S, o⟩ => o σ G H S (Sub.refl _)
theorem sm_continue : PS X (.Continue pos) (rS C W mCnt) := ps_continue.of fun D σ H ⟨G0, H0, G, env, p, S, o⟩ => o σ G H S (Sub.refl _)
theorem sm_retN : PS X (.Return none pos) (rS C W mRetN) := ps_retN.of fun D σ H ⟨G0, H0, G, env, p, S, o⟩ => o .non G H S.x S.l.pen .non
theorem sm_ret (h : PE X e (rE C W m)) : PS X (.Return (some e) pos) (rS C W (mRet m)) := (ps_ret h).of fun D σ H ⟨G0, H0, G, env, p, S, o⟩ =>
  ⟨G, env, p, S.l, (o.out S).imp (fun d q z v G1 H1 x1 y1 r1 => z v G1 H1 (S.x.trans x1) y1 r1) fun _ _ z => z⟩
theorem sm_expr (h : PE X e (rB C W m)) (hs : swapsWith e none pos.line X.env = pure false := by rfl) : PS X (.Expr e pos) (rS C W (mDrop m)) := (ps_expr h hs).of fun D σ H ⟨G0, H0, G, env, p, S, o⟩ =>
  ⟨G, env, p, S.l, (o.out S).imp (fun d q z v G1 H1 x1 y1 r1 => z σ G1 H1 (S.step x1 y1) x1.gro) fun _ _ z => z⟩
theorem sm_if {t : Expr} {ss ts : List Stmt} {mt : TM} (ht : PT X t (rT C W mt)) (ha : PSs X ss (rS C W a)) (hb : PSs X ts (rS C W b)) : PS X (.If t ss ts pos) (rS C W (mIfS mt a b)) := (ps_if ht ha hb).of fun D σ H ⟨G0, H0, G, env, p, S, o⟩ => by
  refine ⟨G, env, p, S.l, (o.out S).imp (fun k q z G1 H1 x1 y1 => ?_) fun _ _ z => z⟩
  cases k with
  | true =>
    rw [if_pos rfl]
    rw [if_pos rfl] at z
    exact ⟨G0, H0, G1, env, q, S.step x1 y1, z.gro x1.gro⟩
  | false =>
    rw [if_neg Bool.false_ne_true]
    rw [if_neg Bool.false_ne_true] at z
    exact ⟨G0, H0, G1, env, q, S.step x1 y1, z.gro x1.gro⟩
theorem SOk.less {G0 H0 G H : Hp} {σ σ' : St} {env env' : Env} {p : Pen} (S : SOk C G0 H0 G H σ env p) (L : LOk C G H σ' env' p) (l : Less σ' env' σ env) : SOk C G0 H0 G H σ' env' p := ⟨L, S.x, fun i ds x h1 h2 => S.f i ds x (l i ds x h1 h2).1 (l i ds x h1 h2).2⟩
theorem rd_set {is : List Nat} {g : GM} {D : Ends} {σ : St} {H : Hp} (h : rS C W (mSet m g) D σ H) : tAsg (rE C W m) (rG C is g) D σ H := by
  obtain ⟨G0, H0, G, env, p, S, o⟩ := h
  refine ⟨G, env, p, S.l, (o.out S).imp (fun d q z v G1 H1 x1 y1 r1 => ?_) fun _ _ z => z⟩
  cases eg : g d env with
  | none =>
    rw [eg] at z
    exact z.elim
  | some env' =>
    rw [eg] at z
    exact ⟨G1, env, q, d, env', (S.step x1 y1).l, r1, eg, fun σ' L' l' _ => z σ' G1 H1 ((S.step x1 y1).less L' l') x1.gro⟩
/-- target = value -/
theorem sm_asg {tg : Expr} {is : List Nat} {g : GM} (h : PE X e (rE C W m)) (hg : PG X tg (rG C is g)) (hs : swapsWithSole [tg] e pos.line X.env = pure false := by rfl) (hw : swappedStores [tg] e X.env = pure none := by rfl)
    (h1 : (assignEach [tg] X.env).map (·.2) = [assign tg X.env] := by rfl) : PS X (.Assign [tg] e pos) (rS C W (mSet m g)) := (ps_asg h hg hs hw h1).of fun _ _ _ z => rd_set z
theorem SOk.setV {G0 H0 G H : Hp} {σ : St} {env : Env} {p : Pen} (S : SOk C G0 H0 G H σ env p) (i : Nat) {v : V} {d : D} (r : Rep C G v d) : SOk C G0 H0 G H (σ.set i (some v)) (env.set i (.val d)) p := S.less (S.l.setV i r) (Less.setV i)
theorem SOk.setO {G0 H0 G H : Hp} {σ : St} {env : Env} {p : Pen} (S : SOk C G0 H0 G H σ env p) (i : Nat) {l : Addr} {vs : List V} {ds : List D} (h : H l = some (.lst vs)) (n : G l = none) (h0 : H0 l = none) (r : Reps C G vs ds) (f : ∀ (j : Nat) (es : List D), env[j]? = some (.own es) → σ[j]? ≠ some (some (.ref l))) : SOk C G0 H0 G H (σ.set i (some (.ref l))) (env.set i (.own ds)) p :=
  ⟨S.l.setO i h n r f, S.x, fun j es x h1 h2 => by
    rcases set_at h1 with ⟨e1, e2⟩ | ⟨e1, h1⟩
    · rcases set_at h2 with ⟨_, z⟩ | ⟨z, _⟩
      · cases z
        exact h0
      · exact absurd e1 z
    · rcases set_at h2 with ⟨z, _⟩ | ⟨_, h2⟩
      · exact absurd z e1
      · exact S.f j es x h1 h2⟩
/-- name = value -/
theorem sm_set (i : Nat) {x : Str} {pos' : Pos} (hN : X.N.Nodup) (h : PE X e (rE C W m)) (hi : X.N[i]? = some x := by rfl) (hx : Loc X.env.scope x := by first | exact Or.inl rfl | exact Or.inr rfl) (hs : swapsWith e (some (.Name x pos')) pos.line X.env = pure false := by rfl) (hf : X.fn x = true ∨ X.env.scope.names.lookup x = some .local := by first | exact .inl rfl | exact .inr rfl) :
    PS X (.Assign [.Name x pos'] e pos) (rS C W (mSet m (gNm i))) := (ps_set hN hi hx h hs hf).of fun D σ H z => by
  obtain ⟨G0, H0, G, env, p, S, o⟩ := z
  exact ⟨G, env, p, S.l, (o.out S).imp (fun d q z v G1 H1 x1 y1 r1 => z _ G1 H1 ((S.step x1 y1).setV i r1) x1.gro) fun _ _ z => z⟩
theorem LOk.notOwn {G H G1 : Hp} {σ : St} {env : Env} {p : Pen} (L : LOk C G H σ env p) {l : Addr} (hl : H l = none) : ∀ (j : Nat) (es : List D), env[j]? = some (.own es) → σ[j]? ≠ some (some (.ref l)) := fun j es h1 h2 => by
  obtain ⟨a, vs, e1, e2, _⟩ := L.own h1
  rw [h2] at e1
  cases e1
  rw [hl] at e2
  cases e2
theorem rd_setO {i : Nat} {r : AM} {D : Ends} {σ : St} {H : Hp} (h : rS C W (mSetO r i) D σ H) : tAsg (rF C W r) (gName i) D σ H := by
  obtain ⟨G0, H0, G, env, p, S, o⟩ := h
  exact ⟨G, env, p, S.l, (o.out S).imp (fun ds q z l vs G1 H1 x1 y1 hl hg hh r1 => z _ G1 H1 ((S.step x1 y1).setO i hh hg (S.x.fre _ hl) r1 (S.l.notOwn (G1 := G) hl)) x1.gro) fun _ _ z => z⟩
/-- name = a list just made: the frame's own -/
theorem sm_setO (i : Nat) {x : Str} {pos' : Pos} {r : AM} (hN : X.N.Nodup) (h : PE X e (rF C W r)) (hi : X.N[i]? = some x := by rfl) (hx : Loc X.env.scope x := by first | exact Or.inl rfl | exact Or.inr rfl) (hs : swapsWith e (some (.Name x pos')) pos.line X.env = pure false := by rfl) (hf : X.fn x = true ∨ X.env.scope.names.lookup x = some .local := by first | exact .inl rfl | exact .inr rfl) :
    PS X (.Assign [.Name x pos'] e pos) (rS C W (mSetO r i)) := (ps_set hN hi hx h hs hf).of fun _ _ _ z => rd_setO z
end
end Pu
end

section
set_option maxHeartbeats 2000000
namespace Pu
open PySem PySem.Spec PyProof.Rows L2

/-! ### for -/
def loopS (g : GM) (b : SM) : List D → Env → Pen → Res
  | [], env, p => .next env p
  | d :: ds, env, p => match g d env with
    | none => .bad
    | some env1 => match b env1 p with
      | .next env2 q => loopS g b ds env2 q
      | .cnt env2 q => loopS g b ds env2 q
      | .brk env2 q => .next env2 q
      | r => r
def mFor (it : AM) (g : GM) (b : SM) : SM := fun env p => (it env p).res env fun ds q => loopS g b ds env q
section
variable {X : Cx} {C : Ctx} {W : WX} {pos : Pos} {tg iter : Expr} {body : List Stmt} {it : AM} {is : List Nat} {g : GM} {b : SM}
theorem rd_for {D : Ends} {σ : St} {H : Hp} (h : rS C W (mFor it g b) D σ H) : tFor (rI C W true it) (rG C is g) (rS C W b) D σ H := by
  obtain ⟨G0, H0, G, env, p, S, o⟩ := h
  refine ⟨G, env, p, S.l, (o.out S).imp (fun ds q z J G1 H1 x1 y1 t => ?_) fun _ _ z => z⟩
  obtain ⟨Gw, Y, w, h1, h2⟩ := t
  refine for_it w (fun i σ' H' => ∃ G' env' p', SOk C G0 H0 G' H' σ' env' p' ∧ Sub G1 G' ∧ ResP C W G0 H0 G' D (loopS g b (ds.drop i) env' p')) ?_ ?_ ?_ ?_
  · exact ⟨G1, env, q, S.step x1 y1, Sub.refl _, by rw [List.drop_zero]; exact z.gro x1.gro⟩
  · rintro i σ' H' hi ⟨G', env', p', S', s', _⟩
    exact h1 G' H' s' S'.l.sub (fun e => by cases e)
  · rintro i x σ' H' H'' hi ⟨G', env', p', S', s', r'⟩ y
    have hd : ds[i]? = some ds[i] := List.getElem?_eq_getElem hi
    obtain ⟨G2, al, rx⟩ := h2 i ds[i] G' H' x H'' hd s' S'.l.sub y
    rw [List.drop_eq_getElem_cons hi] at r'
    cases eg : g ds[i] env' with
    | none =>
      unfold loopS at r'
      rw [eg] at r'
      exact r'.elim
    | some env1 =>
      have S2 : SOk C G0 H0 G2 H'' σ' env' p' := S'.step (S'.l.ext al) (S'.l.pen.alc al)
      refine ⟨G2, env', p', ds[i], env1, S2.l, rx, eg, fun σ1 L1 l1 _ => ⟨G0, H0, G2, env1, p', S2.less L1 l1, ?_⟩⟩
      have r2 : ResP C W G0 H0 G' D (match b env1 p' with
        | .next env2 q => loopS g b (ds.drop (i + 1)) env2 q
        | .cnt env2 q => loopS g b (ds.drop (i + 1)) env2 q
        | .brk env2 q => .next env2 q
        | r => r) := by
        unfold loopS at r'
        rw [eg] at r'
        exact r'
      have r3 := r2.gro al.gro
      cases e : b env1 p' with
      | next env2 q2 =>
        rw [e] at r3
        exact fun σ3 G3 H3 S3 s3 => ⟨G3, env2, q2, S3, (s'.trans al.gro).trans s3, r3.gro s3⟩
      | cnt env2 q2 =>
        rw [e] at r3
        exact fun σ3 G3 H3 S3 s3 => ⟨G3, env2, q2, S3, (s'.trans al.gro).trans s3, r3.gro s3⟩
      | brk env2 q2 =>
        rw [e] at r3
        exact r3
      | ret d q2 =>
        rw [e] at r3
        exact r3
      | err er env2 q2 =>
        rw [e] at r3
        exact r3
      | bad =>
        rw [e] at r3
        exact r3
  · rintro σ' H' ⟨G', env', p', S', s', r'⟩
    rw [List.drop_length] at r'
    exact r' σ' G' H' S' (Sub.refl _)
theorem sm_for (hp : PassesOwn (model X.prog X.w) X.A X.env X.xe) (hc : X.calm = true) (hi : PI X tg iter (rI C W true it)) (hg : PG X tg (rG C is g)) (hb : PSs X body (rS C W b)) (hs : ∀ x, foldedSetIterable iter X.env x = pure x := by intro _; rfl) : PS X (.For tg iter body [] pos) (rS C W (mFor it g b)) :=
  (ps_for hp hc hi hg hb hs).of fun _ _ _ h => rd_for h

/-! ### while -/
def whileS (t : TM) (b : SM) : Nat → Env → Pen → Res
  | 0, _, _ => .bad
  | n + 1, env, p => (t env p).res env fun k q => if k = true then (match b env q with
    | .next env2 q2 => whileS t b n env2 q2
    | .cnt env2 q2 => whileS t b n env2 q2
    | .brk env2 q2 => .next env2 q2
    | r => r) else .next env q
def mWhile (fuel : Env → Pen → Nat) (t : TM) (b : SM) : SM := fun env p => whileS t b (fuel env p) env p
theorem rd_while {fuel : Env → Pen → Nat} {t : TM} {D : Ends} {σ : St} {H : Hp} (h : rS C W (mWhile fuel t b) D σ H) : tWhile (rT C W t) (rS C W b) D σ H := by
  obtain ⟨G0, H0, G, env, p, S, o⟩ := h
  refine ⟨fun m σ' H' => ∃ G' env' p', SOk C G0 H0 G' H' σ' env' p' ∧ ResP C W G0 H0 G' D (whileS t b m env' p'), ⟨fuel env p, G, env, p, S, o⟩, ?_⟩
  rintro m σ' H' ⟨G', env', p', S', r'⟩
  cases m with
  | zero => exact r'.elim
  | succ m =>
    unfold whileS at r'
    refine ⟨G', env', p', S'.l, (r'.out S').imp (fun k q z G1 H1 x1 y1 => ?_) fun _ _ z => z⟩
    have z1 := z.gro x1.gro
    have S1 := S'.step x1 y1
    cases k with
    | false =>
      show if false = true then _ else D.nx σ' H1
      rw [if_neg Bool.false_ne_true] at z1 ⊢
      exact z1 σ' G1 H1 S1 (Sub.refl _)
    | true =>
      rw [if_pos rfl] at z1
      show if true = true then _ else D.nx σ' H1
      rw [if_pos rfl]
      refine ⟨fun σ2 H2 => ∃ G2 env2 p2, SOk C G0 H0 G2 H2 σ2 env2 p2 ∧ ResP C W G0 H0 G2 D (whileS t b m env2 p2), fun σ2 H2 ⟨G2, env2, p2, S2, r2⟩ => ⟨m, Nat.lt_succ_self m, G2, env2, p2, S2, r2⟩, G0, H0, G1, env', q, S1, ?_⟩
      cases e : b env' q with
      | next env2 q2 =>
        rw [e] at z1
        exact fun σ3 G3 H3 S3 s3 => ⟨G3, env2, q2, S3, z1.gro s3⟩
      | cnt env2 q2 =>
        rw [e] at z1
        exact fun σ3 G3 H3 S3 s3 => ⟨G3, env2, q2, S3, z1.gro s3⟩
      | brk env2 q2 =>
        rw [e] at z1
        exact z1
      | ret d q2 =>
        rw [e] at z1
        exact z1
      | err er env2 q2 =>
        rw [e] at z1
        exact z1
      | bad =>
        rw [e] at z1
        exact z1
theorem sm_while (fuel : Env → Pen → Nat) {c : Expr} {t : TM} (hp : PassesOwn (model X.prog X.w) X.A X.env X.xe) (hc : PT X c (rT C W t)) (hb : PSs X body (rS C W b)) : PS X (.While c body [] pos) (rS C W (mWhile fuel t b)) :=
  (ps_while hp hc hb).of fun _ _ _ h => rd_while h
end

/-! ### the frame's own lists written -/
section
variable {C : Ctx} {G0 H0 G H : Hp} {σ : St} {env : Env} {p : Pen}
theorem tabs_upd {l : Addr} {vs ys : List V} (t : Tb C H) (h : H l = some (.lst vs)) : Tb C (upd H l (.lst ys)) := by
  have k : ∀ b o, H b = some o → (∀ vs, o ≠ .lst vs) → upd H l (.lst ys) b = some o := fun b o e n => by
    have nb : b ≠ l := fun z => by
      rw [z, h] at e
      cases e
      exact n _ rfl
    rw [upd_ne nb]
    exact e
  refine ⟨fun q hq => ?_, t.sm.elim fun o h => h.elim fun u q => ⟨o, u, k _ _ q fun _ z => by cases z⟩, fun f c q Gc h => k _ _ (t.co f c q Gc h) fun _ z => by cases z⟩
  obtain ⟨ps, h1, h2, h3⟩ := t.tabs q hq
  refine ⟨ps, k _ _ h1 (fun _ z => by cases z), h2, fun pos cv hc => ?_⟩
  obtain ⟨c, e1, e2⟩ := h3 pos cv hc
  exact ⟨c, e1, k _ _ e2 fun _ z => by cases z⟩
theorem SOk.updO (S : SOk C G0 H0 G H σ env p) {i : Nat} {ds es : List D} {l : Addr} {ys : List V} (h1 : env[i]? = some (.own ds)) (h2 : σ[i]? = some (some (.ref l))) (r : Reps C G ys es) : SOk C G0 H0 G (upd H l (.lst ys)) σ (env.set i (.own es)) p := by
  obtain ⟨l', vs, e1, e2, e3, e4⟩ := S.l.own h1
  rw [h2] at e1
  cases e1
  have sub : Sub G (upd H l (.lst ys)) := fun a o e => by
    rw [upd_ne (ne_of_none e e3)]
    exact S.l.sub a o e
  have tab := tabs_upd (ys := ys) S.l.tab e2
  have pn : PenAt C G (upd H l (.lst ys)) p := fun a e => by
    obtain ⟨n, q1, q2⟩ := S.l.pen a e
    refine ⟨n, ?_, q2⟩
    rw [upd_ne (ne_of q1 e2 (by intro w; cases w))]
    exact q1
  have hi : i < σ.length := (List.getElem?_eq_some_iff.mp h2).1
  refine ⟨⟨sub, tab, pn, by rw [List.length_set, S.l.len], fun j x s q1 q2 => ?_, fun j k es1 es2 a q1 q2 q3 q4 => ?_, S.l.nt⟩, ⟨sub, S.x.gro, S.x.new, fun a o e n1 n2 => ?_, fun a e => ?_, tab⟩, fun j es1 a q1 q2 => ?_⟩
  · rcases set_at q2 with ⟨z1, z2⟩ | ⟨z1, z2⟩
    · subst z1 z2
      rw [h2] at q1
      cases q1
      exact .own upd_same e3 r
    · have s0 := S.l.slot j x s q1 z2
      cases s0 with
      | un => exact .un _
      | val r => exact .val r
      | @own a vs2 ds2 w1 w2 w3 =>
        refine .own ?_ w2 w3
        have na : a ≠ l := fun z => z1 (S.l.dis j i _ _ a z2 h1 q1 (by rw [z]; exact h2))
        rw [upd_ne na]
        exact w1
  · have k1 : ∃ es, env[j]? = some (.own es) := by
      rcases set_at q1 with ⟨z1, _⟩ | ⟨_, z⟩
      · exact ⟨_, by rw [z1]; exact h1⟩
      · exact ⟨_, z⟩
    have k2 : ∃ es, env[k]? = some (.own es) := by
      rcases set_at q2 with ⟨z1, _⟩ | ⟨_, z⟩
      · exact ⟨_, by rw [z1]; exact h1⟩
      · exact ⟨_, z⟩
    obtain ⟨_, k1⟩ := k1
    obtain ⟨_, k2⟩ := k2
    exact S.l.dis j k _ _ a k1 k2 q3 q4
  · have na : a ≠ l := fun z => by
      rw [z, S.f i ds l h1 h2] at e
      cases e
    rw [upd_ne na]
    exact S.x.kee a o e n1 n2
  · by_cases na : a = l
    · rw [na, upd_same] at e
      cases e
    · rw [upd_ne na] at e
      exact S.x.fre a e
  · rcases set_at q1 with ⟨z1, _⟩ | ⟨_, z⟩
    · subst z1
      rw [h2] at q2
      cases q2
      exact S.f _ ds _ h1 h2
    · exact S.f j es1 a z q2
end
def mApp (i : Nat) (m : EM) : SM := fun env p => match env[i]? with
  | some (.own ds) => (m env p).res env fun d q => if ds.length < sizeLine then .next (env.set i (.own (ds ++ [d]))) q else .bad
  | _ => .bad
def mExtS (i : Nat) (m : EM) : SM := fun env p => match env[i]? with
  | some (.own ds) => (m env p).res env fun d q => match d.items with
    | some es => if ds.length + es.length ≤ sizeLine then .next (env.set i (.own (ds ++ es))) q else .bad
    | none => .bad
  | _ => .bad
/-- the place a pop takes -/
def popAt (es : List D) (d : D) : Option (Nat × D) := match d with
  | .int k => if -(2 ^ 63) ≤ k ∧ k < 2 ^ 63 then (match seqIndex? k es.length with
    | some n => (es[n]?).map fun z => (n, z)
    | none => none) else none
  | _ => none
/-- x.append(y.pop(e)) -/
def mAppPop (i j : Nat) (m : EM) : SM := fun env p => match env[i]?, env[j]? with
  | some (.own ds), some (.own es) => (m env p).res env fun d q => match popAt es d with
    | some (n, z) => if i ≠ j ∧ ds.length < sizeLine then .next ((env.set j (.own (es.eraseIdx n))).set i (.own (ds ++ [z]))) q else .bad
    | none => .bad
  | _, _ => .bad
/-- name = y.pop(e) -/
def mSetPop (i j : Nat) (m : EM) : SM := fun env p => match env[j]? with
  | some (.own es) => (m env p).res env fun d q => match popAt es d with
    | some (n, z) => .next ((env.set j (.own (es.eraseIdx n))).set i (.val z)) q
    | none => .bad
  | _ => .bad
/-- name = y.pop() -/
def mSetPop0 (i j : Nat) : SM := fun env p => match env[j]? with
  | some (.own es) => match es[es.length - 1]? with
    | some z => .next ((env.set j (.own es.dropLast)).set i (.val z)) p
    | none => .bad
  | _ => .bad
/-- x[a] = e: the value first -/
def mSetIx (i : Nat) (ma m : EM) : SM := fun env p => (m env p).res env fun d q => match env[i]? with
  | some (.own ds) => (ma env q).res env fun k q2 => match k with
    | .int n => match ixN ds.length n with
      | some j => .next (env.set i (.own (ds.set j d))) q2
      | none => .bad
    | _ => .bad
  | _ => .bad
section
variable {X : Cx} {C : Ctx} {W : WX} {pos apos cpos : Pos} {e e2 : Expr} {m ma : EM} {x y : Str}
/-- the name of a list of the frame's own -/
theorem pv_own (i : Nat) {pos : Pos} (hN : X.N[i]? = some x := by rfl) (hv : Vis X.env.scope x := by first | exact Or.inl rfl | exact Or.inr (Or.inl rfl) | exact Or.inr (Or.inr rfl)) (hd : (x == ("__debug__" : Str)) = false := by decide)
    (hcd : (x == ("__classdict__" : Str)) = false := by decide) : PE X (.Name x pos) (tVar i) := pe_var hN hv hd hcd
theorem tyV_list {K : PySem.W.Frag} {l : Addr} {vs : List V} {H : Hp} (h : H l = some (.lst vs)) : tyV K "list" (.ref l) H := .inl ⟨rfl, _, SqL.of h⟩
theorem Ext.stayL {G H G' H' : Hp} (x : Ext C G H G' H') {q : Pen} (y : PenAt C G H q) {l : Addr} {vs : List V} (h : H l = some (.lst vs)) : H' l = some (.lst vs) := x.kee _ _ h (fun e => by
  obtain ⟨_, h1, _⟩ := y l e
  rw [h] at h1
  cases h1) fun _ z => by cases z
/-- the slot's list through a step -/
theorem SOk.ownAt {G0 H0 G H : Hp} {σ : St} {env : Env} {p : Pen} (S : SOk C G0 H0 G H σ env p) {i : Nat} {ds : List D} (h : env[i]? = some (.own ds)) : ∃ l vs, σ[i]? = some (some (.ref l)) ∧ H l = some (.lst vs) ∧ Reps C G vs ds := by
  obtain ⟨l, vs, h1, h2, _, h4⟩ := S.l.own h
  exact ⟨l, vs, h1, h2, h4⟩
theorem sm_app (i : Nat) {p1 : Pos} (h : PE X e (rE C W m)) (hN : X.N[i]? = some x := by rfl) (hv : Vis X.env.scope x := by first | exact Or.inl rfl | exact Or.inr (Or.inl rfl) | exact Or.inr (Or.inr rfl)) (hd : (x == ("__debug__" : Str)) = false := by decide)
    (hcd : (x == ("__classdict__" : Str)) = false := by decide) (hbase : attributeBase (.Name x p1) "append" X.env (eval (.Name x p1) X.env) = eval (.Name x p1) X.env := by rfl)
    (hfew : ((backTo cpos (starEach [e] X.env)).all (fun x => !x.1) && (backToKw cpos (keywordEach [] X.env)).all (fun x => x.1.isSome) && decide ([e].length + ([] : List Keyword).length + (if ([] : List Keyword).isEmpty then 0 else 1) < 30)) = true := by rfl)
    (hline : (apos.endLine == cpos.line) = true := by rfl) (hs : starEach [e] X.env = (false, eval e X.env) :: starEach [] X.env := by rfl) (hplain : (backTo cpos (starEach [] X.env)).any (·.1) = false := by rfl)
    (hsw : swapsWith (.Call (.Attribute (.Name x p1) "append" apos) [e] [] cpos) none pos.line X.env = pure false := by rfl) :
    PS X (.Expr (.Call (.Attribute (.Name x p1) "append" apos) [e] [] cpos) pos) (rS C W (mApp i m)) :=
  (ps_expr (pe_bm PySem.F.plainAttrs_list PySem.F.slot_list_append PySem.F.type_list_append mt_append (pe_var hN hv hd hcd) (pa_cons h pa_nil hs) hbase hfew hline hs hplain) hsw).of fun D σ H ⟨G0, H0, G, env, p, S, o⟩ => by
    unfold mApp at o
    split at o
    · rename_i ds hi
      obtain ⟨l, vs, h1, h2, h3⟩ := S.ownAt hi
      refine ⟨_, h1, tyV_list h2, G, env, p, S.l, (o.out S).imp (fun d q z v G1 H1 x1 y1 r1 => ?_) fun _ _ z => z⟩
      split at z
      · rename_i hz
        refine ⟨l, vs, v, rfl, rfl, x1.stayL S.l.pen h2, by rw [h3.length]; exact hz, ?_⟩
        exact z σ G1 _ ((S.step x1 y1).updO hi h1 ((h3.mono x1.gro).append (Reps.one r1))) x1.gro
      · exact z.elim
    · exact o.elim
/-- a tuple handed to extend -/
theorem list_extend_tup (l : Addr) (xs : Array Value) (n : Nat) (b : Addr) (ys : Array Value) (k : Nat) (dd : Option Addr) (sl : Array (Option Value)) (c0 : ¬(!xs.isEmpty && Builtin.List.listTooLong (xs.size + ys.size)) = true) (c1 : xs.size ≤ sizeLine) (c2 : xs.size + ys.size ≤ sizeLine + 1) :
    Meets (Builtin.«list.extend» ⟨[.ref l, .ref b], []⟩) (fun _ R s => s.heap.get? l = some { cls := .type "list", dict := none, data := .seq xs n, slots := #[] } ∧ (s.heap.get? b = some { cls := .type "tuple", dict := dd, data := .seq ys k, slots := sl } ∧ R (.ok (.ret Value.none)) { s with heap := s.heap.update l (Obj.mapSeq fun z => z ++ ys), toks := s.toks })) :=
  Meets.of_wp fun P w A R s h => by
    obtain ⟨hp, gs, dr, tk, sy⟩ := s
    obtain ⟨k1, k2, k3⟩ := h
    have u1 := AutoSeq1.idx_int
    have u2 := AutoSeq1.sub_tuple_tuple
    have u3 := AutoSeq1.sub_list_list
    have u4 := AutoSeq1.sub_tuple_list
    have u5 := AutoSeq1.sub_list_tuple
    have c3 : (xs ++ ys).size ≤ sizeLine + 1 := (Array.size_append ..).symm ▸ c2
    wp_walk using (wpAny_updateSeq k1 rfl (hz := c1) (_hz' := c3)), AutoSeq1.wpAny_loadPart' k1, AutoSeq1.wpAny_loadPart' k2
    exact ⟨_, rfl, k3⟩
def rExtT (K : PySem.W.Frag) : V → List V → Hp → VK → Prop := fun x vs H Q => ∃ l b xs zs, x = .ref l ∧ vs = [.ref b] ∧ H l = some (.lst xs) ∧ SqT K H b zs ∧ xs.length + zs.length ≤ sizeLine ∧ Q .non (upd H l (.lst (xs ++ zs)))
theorem mt_extT : MtM X "list.extend" (rExtT X.K) := by
  intro pins s σ H x vs v us Q I rx rv h
  obtain ⟨l, b, xs, zs, rfl, rfl, hH, hB, hz, q⟩ := h
  cases rx
  obtain ⟨u, rfl, ru⟩ := rv.one
  cases ru
  obtain ⟨z, its, n, r, hl, e⟩ := I.lstM hH
  obtain ⟨its2, r2, ⟨ob, e2, c2, n2, d2⟩, z2⟩ := I.tuple hB
  have hl2 := r2.length
  have hsz : its.toArray.size + its2.toArray.size ≤ sizeLine := by rw [List.size_toArray, List.size_toArray]; omega
  have hlong : ¬ (!its.toArray.isEmpty && Builtin.List.listTooLong (its.toArray.size + its2.toArray.size)) = true := by
    rw [notLongL hsz, Bool.and_false]
    exact Bool.false_ne_true
  obtain ⟨oc, od, oda, osl⟩ := ob
  cases c2
  cases d2
  refine call_meets F.slot_list_extend ⟨_, e, rfl⟩ F.entry_list_extend (F.args_list_extend_2 _ _)
    (list_extend_tup l its.toArray n b its2.toArray n2 od osl hlong (by rw [List.size_toArray]; omega) (by omega)) ⟨e, e2, ?_⟩
  refine ⟨.non, _, I.lset (its' := its ++ its2) hH e (by simp) (r.append r2) ?_, rfl, q⟩
  rw [List.length_append]
  omega
theorem mt_extAny : MtM X "list.extend" (fun x vs H Q => rExtend x vs H Q ∨ rExtT X.K x vs H Q) := by
  intro pins s σ H x vs v us Q I rx rv h
  rcases h with h | h
  · exact mt_extend pins s σ H x vs v us Q I rx rv h
  · exact mt_extT pins s σ H x vs v us Q I rx rv h
theorem sm_ext (i : Nat) {p1 : Pos} (h : PE X e (rB C W m)) (hN : X.N[i]? = some x := by rfl) (hv : Vis X.env.scope x := by first | exact Or.inl rfl | exact Or.inr (Or.inl rfl) | exact Or.inr (Or.inr rfl)) (hd : (x == ("__debug__" : Str)) = false := by decide)
    (hcd : (x == ("__classdict__" : Str)) = false := by decide) (hbase : attributeBase (.Name x p1) "extend" X.env (eval (.Name x p1) X.env) = eval (.Name x p1) X.env := by rfl)
    (hfew : ((backTo cpos (starEach [e] X.env)).all (fun x => !x.1) && (backToKw cpos (keywordEach [] X.env)).all (fun x => x.1.isSome) && decide ([e].length + ([] : List Keyword).length + (if ([] : List Keyword).isEmpty then 0 else 1) < 30)) = true := by rfl)
    (hline : (apos.endLine == cpos.line) = true := by rfl) (hs : starEach [e] X.env = (false, eval e X.env) :: starEach [] X.env := by rfl) (hplain : (backTo cpos (starEach [] X.env)).any (·.1) = false := by rfl)
    (hsw : swapsWith (.Call (.Attribute (.Name x p1) "extend" apos) [e] [] cpos) none pos.line X.env = pure false := by rfl) :
    PS X (.Expr (.Call (.Attribute (.Name x p1) "extend" apos) [e] [] cpos) pos) (rS C W (mExtS i m)) :=
  (ps_expr (pe_bm PySem.F.plainAttrs_list PySem.F.slot_list_extend PySem.F.type_list_extend mt_extAny (pe_var hN hv hd hcd) (pa_cons h pa_nil hs) hbase hfew hline hs hplain) hsw).of fun D σ H ⟨G0, H0, G, env, p, S, o⟩ => by
    unfold mExtS at o
    split at o
    · rename_i ds hi
      obtain ⟨l, vs, h1, h2, h3⟩ := S.ownAt hi
      refine ⟨_, h1, tyV_list h2, G, env, p, S.l, (o.out S).imp (fun d q z v G1 H1 x1 y1 r1 => ?_) fun _ _ z => z⟩
      split at z
      · rename_i es hes
        split at z
        · rename_i hz
          have S1 := S.step x1 y1
          have fin : ∀ ws, Reps C G1 ws es → D.nx σ (upd H1 l (.lst (vs ++ ws))) := fun ws rw' => z σ G1 _ (S1.updO hi h1 ((h3.mono x1.gro).append rw')) x1.gro
          rcases Pu.D.items_or hes with e1 | e1
          · subst e1
            obtain ⟨b, ws, rfl, hH, rs⟩ := r1.lst S1.l
            exact .inl ⟨l, b, vs, ws, rfl, rfl, x1.stayL S.l.pen h2, hH, by rw [h3.length, rs.length]; exact hz, fin ws rs⟩
          · subst e1
            obtain ⟨b, ws, rfl, hG, rs⟩ := r1.tup
            exact .inr ⟨l, b, vs, ws, rfl, rfl, x1.stayL S.l.pen h2, SqT.of (S1.l.sub _ _ hG), by rw [h3.length, rs.length]; exact hz, fin ws rs⟩
        · exact z.elim
      · exact z.elim
    · exact o.elim
end
end Pu
end

section
set_option maxHeartbeats 2000000
namespace Pu
open PySem PySem.Spec PyProof.Rows L2

section
variable {X : Cx} {C : Ctx} {W : WX} {pos apos cpos : Pos} {e e2 : Expr} {m ma : EM} {x y : Str}
theorem Reps.popAt {G : Hp} {vs : List V} {es : List D} {d z : D} {n : Nat} (r : Reps C G vs es) (h : popAt es d = some (n, z)) : ∃ k u, d = .int k ∧ -(2 ^ 63) ≤ k ∧ k < 2 ^ 63 ∧ seqIndex? k vs.length = some n ∧ vs[n]? = some u ∧ Rep C G u z := by
  unfold Pu.popAt at h
  split at h
  · rename_i k
    split at h
    · rename_i hk
      rw [← r.length] at h
      split at h
      · rename_i n' hn
        cases ez : es[n']? with
        | none =>
          rw [ez] at h
          cases h
        | some z' =>
          rw [ez] at h
          cases h
          obtain ⟨u, h1, h2⟩ := r.getR ez
          exact ⟨k, u, rfl, hk.1, hk.2, hn, h1, h2⟩
      · cases h
    · cases h
  · cases h
theorem env_ne {env : Env} {i j : Nat} {s : Slot} (h : i ≠ j) {t : Slot} (e : env[i]? = some t) : (env.set j s)[i]? = some t := by
  rw [List.getElem?_set_ne (fun z => h z.symm)]
  exact e
/-- x.append(y.pop(e)) -/
theorem sm_appPop (i j : Nat) {p1 p2 ap2 cp2 : Pos} (h : PE X e (rB C W m)) (hN : X.N[i]? = some x := by rfl) (hv : Vis X.env.scope x := by first | exact Or.inl rfl | exact Or.inr (Or.inl rfl) | exact Or.inr (Or.inr rfl)) (hd : (x == ("__debug__" : Str)) = false := by decide)
    (hcd : (x == ("__classdict__" : Str)) = false := by decide) (hN2 : X.N[j]? = some y := by rfl) (hv2 : Vis X.env.scope y := by first | exact Or.inl rfl | exact Or.inr (Or.inl rfl) | exact Or.inr (Or.inr rfl)) (hd2 : (y == ("__debug__" : Str)) = false := by decide)
    (hcd2 : (y == ("__classdict__" : Str)) = false := by decide)
    (hbase2 : attributeBase (.Name y p2) "pop" X.env (eval (.Name y p2) X.env) = eval (.Name y p2) X.env := by rfl)
    (hfew2 : ((backTo cp2 (starEach [e] X.env)).all (fun x => !x.1) && (backToKw cp2 (keywordEach [] X.env)).all (fun x => x.1.isSome) && decide ([e].length + ([] : List Keyword).length + (if ([] : List Keyword).isEmpty then 0 else 1) < 30)) = true := by rfl)
    (hline2 : (ap2.endLine == cp2.line) = true := by rfl) (hs2 : starEach [e] X.env = (false, eval e X.env) :: starEach [] X.env := by rfl) (hplain2 : (backTo cp2 (starEach [] X.env)).any (·.1) = false := by rfl)
    (hbase : attributeBase (.Name x p1) "append" X.env (eval (.Name x p1) X.env) = eval (.Name x p1) X.env := by rfl)
    (hfew : ((backTo cpos (starEach [.Call (.Attribute (.Name y p2) "pop" ap2) [e] [] cp2] X.env)).all (fun x => !x.1) && (backToKw cpos (keywordEach [] X.env)).all (fun x => x.1.isSome) && decide ([Expr.Call (.Attribute (.Name y p2) "pop" ap2) [e] [] cp2].length + ([] : List Keyword).length + (if ([] : List Keyword).isEmpty then 0 else 1) < 30)) = true := by rfl)
    (hline : (apos.endLine == cpos.line) = true := by rfl) (hs : starEach [.Call (.Attribute (.Name y p2) "pop" ap2) [e] [] cp2] X.env = (false, eval (.Call (.Attribute (.Name y p2) "pop" ap2) [e] [] cp2) X.env) :: starEach [] X.env := by rfl) (hplain : (backTo cpos (starEach [] X.env)).any (·.1) = false := by rfl)
    (hsw : swapsWith (.Call (.Attribute (.Name x p1) "append" apos) [.Call (.Attribute (.Name y p2) "pop" ap2) [e] [] cp2] [] cpos) none pos.line X.env = pure false := by rfl) :
    PS X (.Expr (.Call (.Attribute (.Name x p1) "append" apos) [.Call (.Attribute (.Name y p2) "pop" ap2) [e] [] cp2] [] cpos) pos) (rS C W (mAppPop i j m)) :=
  (ps_expr (pe_bm PySem.F.plainAttrs_list PySem.F.slot_list_append PySem.F.type_list_append mt_append (pe_var hN hv hd hcd) (pa_cons (pe_bm PySem.F.plainAttrs_list PySem.F.slot_list_pop PySem.F.type_list_pop mt_popAt (pe_var hN2 hv2 hd2 hcd2) (pa_cons h pa_nil hs2) hbase2 hfew2 hline2 hs2 hplain2) pa_nil hs) hbase hfew hline hs hplain) hsw).of fun D σ H ⟨G0, H0, G, env, p, S, o⟩ => by
    unfold mAppPop at o
    split at o
    · rename_i ds es hi hj
      obtain ⟨l, vs, h1, h2, h3⟩ := S.ownAt hi
      obtain ⟨l2, ws, k1, k2, k3⟩ := S.ownAt hj
      refine ⟨_, h1, tyV_list h2, _, k1, tyV_list k2, G, env, p, S.l, (o.out S).imp (fun d q z v G1 H1 x1 y1 r1 => ?_) fun _ _ z => z⟩
      split at z
      · rename_i n u hp
        split at z
        · rename_i hc
          obtain ⟨k, w, rfl, q1, q2, q3, q4, q5⟩ := (k3.mono x1.gro).popAt hp
          have S1 := S.step x1 y1
          have S2 := S1.updO hj k1 (Reps.eraseIdx n (k3.mono x1.gro))
          have nl : l ≠ l2 := fun e => hc.1 (S.l.dis i j _ _ l hi hj h1 (by rw [e]; exact k1))
          refine ⟨l2, ws, k, n, w, rfl, by rw [r1.int], x1.stayL S.l.pen k2, q1, q2, q3, q4, l, vs, w, rfl, rfl, ?_, by rw [h3.length]; exact hc.2, ?_⟩
          · rw [upd_ne nl]
            exact x1.stayL S.l.pen h2
          · exact z σ G1 _ (S2.updO (env_ne hc.1 hi) h1 ((h3.mono x1.gro).append (Reps.one q5))) x1.gro
        · exact z.elim
      · exact z.elim
    · exact o.elim
/-- name = y.pop(e) -/
theorem sm_setPop (i j : Nat) {p1 p2 ap2 cp2 : Pos} (hNd : X.N.Nodup) (h : PE X e (rB C W m)) (hN : X.N[i]? = some x := by rfl) (hx : Loc X.env.scope x := by first | exact Or.inl rfl | exact Or.inr rfl) (hf : X.fn x = true ∨ X.env.scope.names.lookup x = some .local := by first | exact .inl rfl | exact .inr rfl)
    (hN2 : X.N[j]? = some y := by rfl) (hv2 : Vis X.env.scope y := by first | exact Or.inl rfl | exact Or.inr (Or.inl rfl) | exact Or.inr (Or.inr rfl)) (hd2 : (y == ("__debug__" : Str)) = false := by decide)
    (hcd2 : (y == ("__classdict__" : Str)) = false := by decide)
    (hbase2 : attributeBase (.Name y p2) "pop" X.env (eval (.Name y p2) X.env) = eval (.Name y p2) X.env := by rfl)
    (hfew2 : ((backTo cp2 (starEach [e] X.env)).all (fun x => !x.1) && (backToKw cp2 (keywordEach [] X.env)).all (fun x => x.1.isSome) && decide ([e].length + ([] : List Keyword).length + (if ([] : List Keyword).isEmpty then 0 else 1) < 30)) = true := by rfl)
    (hline2 : (ap2.endLine == cp2.line) = true := by rfl) (hs2 : starEach [e] X.env = (false, eval e X.env) :: starEach [] X.env := by rfl) (hplain2 : (backTo cp2 (starEach [] X.env)).any (·.1) = false := by rfl)
    (hsw : swapsWith (.Call (.Attribute (.Name y p2) "pop" ap2) [e] [] cp2) (some (.Name x p1)) pos.line X.env = pure false := by rfl) :
    PS X (.Assign [.Name x p1] (.Call (.Attribute (.Name y p2) "pop" ap2) [e] [] cp2) pos) (rS C W (mSetPop i j m)) :=
  (ps_set hNd hN hx (pe_bm PySem.F.plainAttrs_list PySem.F.slot_list_pop PySem.F.type_list_pop mt_popAt (pe_var hN2 hv2 hd2 hcd2) (pa_cons h pa_nil hs2) hbase2 hfew2 hline2 hs2 hplain2) hsw hf).of fun D σ H ⟨G0, H0, G, env, p, S, o⟩ => by
    unfold mSetPop at o
    split at o
    · rename_i es hj
      obtain ⟨l2, ws, k1, k2, k3⟩ := S.ownAt hj
      refine ⟨_, k1, tyV_list k2, G, env, p, S.l, (o.out S).imp (fun d q z v G1 H1 x1 y1 r1 => ?_) fun _ _ z => z⟩
      split at z
      · rename_i n u hp
        obtain ⟨k, w, rfl, q1, q2, q3, q4, q5⟩ := (k3.mono x1.gro).popAt hp
        have S2 := (S.step x1 y1).updO hj k1 (Reps.eraseIdx n (k3.mono x1.gro))
        exact ⟨l2, ws, k, n, w, rfl, by rw [r1.int], x1.stayL S.l.pen k2, q1, q2, q3, q4, z _ G1 _ (S2.setV i q5) x1.gro⟩
      · exact z.elim
    · exact o.elim
/-- name = y.pop() -/
theorem sm_setPop0 (i j : Nat) {p1 p2 ap2 cp2 : Pos} (hNd : X.N.Nodup) (hN : X.N[i]? = some x := by rfl) (hx : Loc X.env.scope x := by first | exact Or.inl rfl | exact Or.inr rfl) (hf : X.fn x = true ∨ X.env.scope.names.lookup x = some .local := by first | exact .inl rfl | exact .inr rfl)
    (hN2 : X.N[j]? = some y := by rfl) (hv2 : Vis X.env.scope y := by first | exact Or.inl rfl | exact Or.inr (Or.inl rfl) | exact Or.inr (Or.inr rfl)) (hd2 : (y == ("__debug__" : Str)) = false := by decide)
    (hcd2 : (y == ("__classdict__" : Str)) = false := by decide)
    (hbase2 : attributeBase (.Name y p2) "pop" X.env (eval (.Name y p2) X.env) = eval (.Name y p2) X.env := by rfl) (hline2 : (ap2.endLine == cp2.line) = true := by rfl)
    (hsw : swapsWith (.Call (.Attribute (.Name y p2) "pop" ap2) [] [] cp2) (some (.Name x p1)) pos.line X.env = pure false := by rfl) :
    PS X (.Assign [.Name x p1] (.Call (.Attribute (.Name y p2) "pop" ap2) [] [] cp2) pos) (rS C W (mSetPop0 i j)) :=
  (ps_set hNd hN hx (pe_bm0 PySem.F.plainAttrs_list PySem.F.slot_list_pop PySem.F.type_list_pop mt_pop (pe_var hN2 hv2 hd2 hcd2) hbase2 hline2) hsw hf).of fun D σ H ⟨G0, H0, G, env, p, S, o⟩ => by
    unfold mSetPop0 at o
    split at o
    · rename_i es hj
      obtain ⟨l2, ws, k1, k2, k3⟩ := S.ownAt hj
      split at o
      · rename_i z hz
        obtain ⟨u, q4, q5⟩ := k3.getR hz
        have S2 := S.updO hj k1 k3.dropLast
        rw [← k3.length] at q4
        exact ⟨_, k1, tyV_list k2, l2, ws, u, rfl, rfl, k2, q4, o _ G _ (S2.setV i q5) (Sub.refl _)⟩
      · exact o.elim
    · exact o.elim
/-- x[a] = e -/
theorem sm_setIx (i : Nat) {p1 sp : Pos} {a : Expr} (h : PE X e (rE C W m)) (ha : PE X a (rB C W ma)) (hN : X.N[i]? = some x := by rfl) (hv : Vis X.env.scope x := by first | exact Or.inl rfl | exact Or.inr (Or.inl rfl) | exact Or.inr (Or.inr rfl)) (hd : (x == ("__debug__" : Str)) = false := by decide)
    (hcd : (x == ("__classdict__" : Str)) = false := by decide)
    (hg : ∀ v, assign (.Subscript (.Name x p1) a sp) X.env v = (do
      let ov ← holding [v] (eval (.Name x p1) X.env)
      let iv ← holding [v, ov] (eval a X.env)
      standAt sp
      holding [v, ov, iv] (setItem ov iv v)
      release [v, ov, iv] []) := by intro _; rfl) (hs : swapsWithSole [.Subscript (.Name x p1) a sp] e pos.line X.env = pure false := by rfl) (hw : swappedStores [.Subscript (.Name x p1) a sp] e X.env = pure none := by rfl)
    (h1 : (assignEach [.Subscript (.Name x p1) a sp] X.env).map (·.2) = [assign (.Subscript (.Name x p1) a sp) X.env] := by rfl) :
    PS X (.Assign [.Subscript (.Name x p1) a sp] e pos) (rS C W (mSetIx i ma m)) :=
  (ps_asg h (pg_sub (pe_var hN hv hd hcd) ha set_list hg) hs hw h1).of fun D σ H ⟨G0, H0, G, env, p, S, o⟩ => by
    refine ⟨G, env, p, S.l, (o.out S).imp (fun d q z v G1 H1 x1 y1 r1 => ?_) fun _ _ z => z⟩
    have S1 := S.step x1 y1
    split at z
    · rename_i ds hi
      obtain ⟨l, vs, k1, k2, k3⟩ := S1.ownAt hi
      have z1 := z.gro x1.gro
      refine ⟨_, k1, G1, env, q, S1.l, (z1.out S1).imp (fun k q2 z2 u G2 H2 x2 y2 r2 => ?_) fun _ _ z => z⟩
      have S2 := S1.step x2 y2
      split at z2
      · rename_i n
        split at z2
        · rename_i j hj
          refine ⟨l, vs, n, j, rfl, r2.int, x2.stayL S1.l.pen k2, by rw [k3.length]; exact hj, ?_⟩
          exact z2 σ G2 _ (S2.updO hi k1 ((k3.mono x2.gro).set j (r1.mono x2.gro))) x2.gro
        · exact z2.elim
      · exact z2.elim
    · exact z.elim
end
end Pu
end

section
set_option maxHeartbeats 2000000
namespace Pu
open PySem PySem.Spec PyProof.Rows L2

section
variable {X : Cx}
/-- xs[i] by values -/
theorem get_list : PGet X (rIxL X.K) := by
  intro pins s σ H o i ov iv Q I ro ri h
  obtain ⟨p, xs, k, z, rfl, rfl, hq, he, q⟩ := h
  cases ro
  obtain ⟨t, rfl⟩ := ri
  obtain ⟨us, r, pl, hz⟩ := I.list hq
  obtain ⟨j, g1, g2, g3, g4, g5⟩ := atI_get he
  obtain ⟨w, ew, rw'⟩ := r.get g2
  have hl := r.length
  have hn := line63
  have fin : EP X pins σ Q w s := ⟨z, H, I, rw', q⟩
  by_cases h0 : 0 ≤ k
  · have hj : k.toNat = j := by
      rw [seqIndex_of h0 g5] at g1
      exact Option.some.inj g1
    exact wpAny_getItem_list pl.isList h0 (by omega) (by rw [hj]; simpa using ew) fin
  · have hj : (k + (us.toArray.size : Int)).toNat = j := by
      rw [seqIndex_neg (by omega) g4] at g1
      rw [List.size_toArray, ← hl]
      exact Option.some.inj g1
    exact wpAny_getItem_list_neg pl.isList (by omega) (by rw [List.size_toArray] <;> omega) (by omega) (by rw [hj]; simpa using ew) fin
end
/-- x[a] op= e, ints -/
def mAugIx (f : Int → Int → Int) (i : Nat) (ma m : EM) : SM := fun env p => match env[i]? with
  | some (.own ds) => (ma env p).res env fun k q => match k with
    | .int n => match ixN ds.length n, L2.atI ds n with
      | some j, some (.int old) => (m env q).res env fun d q2 => match d with
        | .int v => .next (env.set i (.own (ds.set j (.int (f old v))))) q2
        | _ => .bad
      | _, _ => .bad
    | _ => .bad
  | _ => .bad
/-- name op= e, ints -/
def mAug (f : Int → Int → Int) (i : Nat) (m : EM) : SM := fun env p => match env[i]? with
  | some (.val (.int a)) => (m env p).res env fun d q => match d with
    | .int b => .next (env.set i (.val (.int (f a b)))) q
    | _ => .bad
  | _ => .bad
section
variable {X : Cx} {C : Ctx} {W : WX} {pos apos cpos : Pos} {e e2 : Expr} {m ma : EM} {x y : Str}
theorem sm_augIx (i : Nat) {f : Int → Int → Int} {op : Operator} {p1 sp : Pos} {a : Expr} (hp : PIp X op (ipI f)) (ha : PE X a (rB C W ma)) (h : PE X e (rE C W m)) (hN : X.N[i]? = some x := by rfl) (hv : Vis X.env.scope x := by first | exact Or.inl rfl | exact Or.inr (Or.inl rfl) | exact Or.inr (Or.inr rfl)) (hd : (x == ("__debug__" : Str)) = false := by decide)
    (hcd : (x == ("__classdict__" : Str)) = false := by decide)
    (hst : ∀ ov iv new, augStore a ov iv new = (do holding [new, ov, iv] (setItem ov iv new); release [new, ov, iv] []; pure .next) := by intros; rfl) :
    PS X (.AugAssign (.Subscript (.Name x p1) a sp) op e pos) (rS C W (mAugIx f i ma m)) :=
  (ps_augS (pe_var hN hv hd hcd) ha get_list h hp set_list hst).of fun D σ H ⟨G0, H0, G, env, p, S, o⟩ => by
    unfold mAugIx at o
    split at o
    · rename_i ds hi
      obtain ⟨l, vs, k1, k2, k3⟩ := S.ownAt hi
      refine ⟨_, k1, G, env, p, S.l, (o.out S).imp (fun k q z u G1 H1 x1 y1 r1 => ?_) fun _ _ z => z⟩
      have S1 := S.step x1 y1
      have k21 := x1.stayL S.l.pen k2
      have k31 := k3.mono x1.gro
      split at z
      · rename_i n
        split at z
        · rename_i j old hj ho
          obtain ⟨w, a1, a2⟩ := k31.atI ho
          cases a2
          refine ⟨l, vs, n, _, rfl, r1.int, SqL.of k21, a1, G1, env, q, S1.l, ((z.gro x1.gro).out S1).imp (fun d q2 z2 u2 G2 H2 x2 y2 r2 => ?_) fun _ _ z => z⟩
          have S2 := S1.step x2 y2
          split at z2
          · rename_i v
            cases r2
            exact ⟨old, v, rfl, rfl, l, vs, n, j, rfl, r1.int, x2.stayL S1.l.pen k21, by rw [k31.length]; exact hj, z2 σ G2 _ (S2.updO hi k1 ((k31.mono x2.gro).set j (.int _))) x2.gro⟩
          · exact z2.elim
        · exact z.elim
      · exact z.elim
    · exact o.elim
theorem sm_aug (i : Nat) {f : Int → Int → Int} {op : Operator} {p1 : Pos} (hNd : X.N.Nodup) (hp : PIp X op (ipI f)) (h : PE X e (rE C W m)) (hN : X.N[i]? = some x := by rfl) (hx : Loc X.env.scope x := by first | exact Or.inl rfl | exact Or.inr rfl) (hf : X.fn x = true ∨ X.env.scope.names.lookup x = some .local := by first | exact .inl rfl | exact .inr rfl) :
    PS X (.AugAssign (.Name x p1) op e pos) (rS C W (mAug f i m)) :=
  (ps_aug hNd hN hx h hp hf).of fun D σ H ⟨G0, H0, G, env, p, S, o⟩ => by
    unfold mAug at o
    split at o
    · rename_i a hi
      obtain ⟨v, k1, k2⟩ := S.l.val hi
      cases k2
      refine ⟨_, k1, G, env, p, S.l, (o.out S).imp (fun d q z u G1 H1 x1 y1 r1 => ?_) fun _ _ z => z⟩
      split at z
      · rename_i b
        cases r1
        exact ⟨a, b, rfl, rfl, z _ G1 _ ((S.step x1 y1).setV i (.int _)) x1.gro⟩
      · exact z.elim
    · exact o.elim
end

/-! ### a, b = x, y -/
abbrev AS := Env → Pen → Out (List Slot)
inductive SReps (C : Ctx) (G' H' H : Hp) : List V → List Slot → Prop where
  | nil : SReps C G' H' H [] []
  | val {v : V} {d : D} {vs : List V} {ss : List Slot} (r : Rep C G' v d) (hd : d.isFn = false) (t : SReps C G' H' H vs ss) : SReps C G' H' H (v :: vs) (.val d :: ss)
  | own {l : Addr} {ws : List V} {ds : List D} {vs : List V} {ss : List Slot} (h : H l = none) (n : G' l = none) (hh : H' l = some (.lst ws)) (r : Reps C G' ws ds) (f : V.ref l ∉ vs) (t : SReps C G' H' H vs ss) : SReps C G' H' H (.ref l :: vs) (.own ds :: ss)
def rAS (C : Ctx) (W : WX) (m : AS) : TA := fun σ H Q => ∃ G env p, LOk C G H σ env p ∧
  OutP (m env p) (fun ss q => ∀ vs G' H', Ext C G H G' H' → PenAt C G' H' q → SReps C G' H' H vs ss → Q vs H') (ErrP C W G H σ)
def sNil : AS := fun _ p => .ok [] p
def sVal (m : EM) (r : AS) : AS := fun env p => (m env p).bind fun d q => if d.isFn = true then .bad else (r env q).bind fun ss q2 => .ok (.val d :: ss) q2
def sOwn (m : AM) (r : AS) : AS := fun env p => (m env p).bind fun ds q => (r env q).bind fun ss q2 => .ok (.own ds :: ss) q2
section
variable {X : Cx} {C : Ctx} {W : WX} {pos apos cpos : Pos} {e e2 : Expr} {es : List Expr} {m ma : EM} {r : AS} {x y : Str}
theorem SReps.fresh {G H G1 H1 G2 H2 : Hp} (x1 : Ext C G H G1 H1) : ∀ {vs : List V} {ss : List Slot}, SReps C G2 H2 H1 vs ss → SReps C G2 H2 H vs ss
  | _, _, .nil => .nil
  | _, _, .val r hd t => .val r hd (SReps.fresh x1 t)
  | _, _, .own h n hh r f t => .own (x1.fre _ h) n hh r f (SReps.fresh x1 t)
theorem SReps.notIn {H1 G2 H2 : Hp} {l : Addr} {o : List V} (h1 : H1 l = some (.lst o)) (h2 : G2 l = none) (hp : C.pa ≠ some l) : ∀ {vs : List V} {ss : List Slot}, SReps C G2 H2 H1 vs ss → V.ref l ∉ vs
  | _, _, .nil => fun z => by cases z
  | _, _, .val r hd t => fun z => by
    rcases List.mem_cons.mp z with e | z
    · subst e
      cases r with
      | tup h _ =>
        rw [h2] at h
        cases h
      | lst h _ =>
        rw [h2] at h
        cases h
      | dct h _ =>
        rw [h2] at h
        cases h
      | obj _ h _ =>
        rw [h2] at h
        cases h
      | pen h => exact hp h
      | fn h => cases hd
      | clo h s0 => cases hd
      | lam _ _ _ => cases hd
      | exc0 h m => cases hd
      | scr h => cases hd
      | exc1 h m g r => cases hd
    · exact SReps.notIn h1 h2 hp t z
  | _, _, .own h n hh r f t => fun z => by
    rcases List.mem_cons.mp z with e | z
    · cases e
      rw [h1] at h
      cases h
    · exact SReps.notIn h1 h2 hp t z
theorem as_nil : PA X [] (rAS C W sNil) := pa_nil.of fun σ H Q ⟨G, env, p, L, o⟩ => o [] G H (Ext.refl L.sub L.tab) L.pen .nil
theorem as_val (h : PE X e (rE C W m)) (hr : PA X es (rAS C W r)) (hs : starEach (e :: es) X.env = (false, eval e X.env) :: starEach es X.env := by rfl) : PA X (e :: es) (rAS C W (sVal m r)) := (pa_cons h hr hs).of fun σ H Q ⟨G, env, p, L, o⟩ => by
  refine ⟨G, env, p, L, o.bind.imp (fun d q z v G1 H1 x1 y1 r1 => ?_) fun _ _ z => z⟩
  split at z
  · exact z.elim
  · rename_i hd
    exact ⟨G1, env, q, L.step x1 y1, z.bind.imp (fun ds q2 z2 vs G2 H2 x2 y2 r2 => z2 (v :: vs) G2 H2 (x1.trans x2) y2 (.val (r1.mono x2.gro) (by simpa using hd) (r2.fresh x1))) fun _ _ z => z.step x1⟩
theorem as_own {a : AM} (h : PE X e (rF C W a)) (hr : PA X es (rAS C W r)) (hs : starEach (e :: es) X.env = (false, eval e X.env) :: starEach es X.env := by rfl) : PA X (e :: es) (rAS C W (sOwn a r)) := (pa_cons h hr hs).of fun σ H Q ⟨G, env, p, L, o⟩ => by
  refine ⟨G, env, p, L, o.bind.imp (fun ds q z l vs G1 H1 x1 y1 hl hg hh r1 => ?_) fun _ _ z => z⟩
  refine ⟨G1, env, q, L.step x1 y1, z.bind.imp (fun ss q2 z2 ws G2 H2 x2 y2 r2 => ?_) fun _ _ z => z.step x1⟩
  have hg2 : G2 l = none := by
    cases e : G2 l with
    | none => rfl
    | some o =>
      rcases x2.new l o e with w | w | ⟨q, w⟩
      · rw [hg] at w
        cases w
      · rw [hh] at w
        cases w
      · have k := x2.stayL y1 hh
        rw [x2.sub _ _ e, w] at k
        cases k
  refine z2 (.ref l :: ws) G2 H2 (x1.trans x2) y2 (.own hl hg2 (x2.stayL y1 hh) (r1.mono x2.gro) (r2.notIn hh hg2 fun e => ?_) (r2.fresh x1))
  obtain ⟨_, w, _⟩ := y1 l e
  rw [hh] at w
  cases w
/-- a slot stored -/
theorem SOk.setS {G0 H0 G H Ha : Hp} {σ : St} {env : Env} {p : Pen} (S : SOk C G0 H0 G H σ env p) (i : Nat) {v : V} {s : Slot} {vs : List V} {ss : List Slot} (r : SReps C G H Ha (v :: vs) (s :: ss)) (h0 : ∀ a, Ha a = none → H0 a = none) (nf : ∀ (j : Nat) (es : List D) (a : Addr), env[j]? = some (.own es) → σ[j]? = some (some (.ref a)) → V.ref a = v → False) : SOk C G0 H0 G H (σ.set i (some v)) (env.set i s) p := by
  cases r with
  | val r hd t => exact S.setV i r
  | own h n hh r f t => exact S.setO i hh n (h0 _ h) r fun j es e1 e2 => nf j es _ e1 e2 rfl
theorem SReps.tl {G' H' H : Hp} {v : V} {s : Slot} {vs : List V} {ss : List Slot} (r : SReps C G' H' H (v :: vs) (s :: ss)) : SReps C G' H' H vs ss := by
  cases r with
  | val _ _ t => exact t
  | own _ _ _ _ _ t => exact t
/-- the value stored is no own list from before -/
theorem SReps.new {G H0 G1 H1 : Hp} {σ : St} {env : Env} {p q : Pen} {v : V} {s : Slot} {vs : List V} {ss : List Slot} (L : LOk C G H0 σ env p) (L1 : LOk C G1 H1 σ env q) (r : SReps C G1 H1 H0 (v :: vs) (s :: ss)) : ∀ (j : Nat) (es : List D) (a : Addr), env[j]? = some (.own es) → σ[j]? = some (some (.ref a)) → V.ref a = v → False := fun j es a e1 e2 e3 => by
  obtain ⟨b, ws, k1, k2, k3, _⟩ := L1.own e1
  obtain ⟨b2, ws2, j1, j2, j3, _⟩ := L.own e1
  rw [e2] at k1 j1
  cases k1
  cases j1
  subst e3
  cases r with
  | val r hd t =>
    cases r with
    | tup h _ =>
      rw [k3] at h
      cases h
    | lst h _ =>
      rw [k3] at h
      cases h
    | dct h _ =>
      rw [k3] at h
      cases h
    | obj _ h _ =>
      rw [k3] at h
      cases h
    | pen h =>
      obtain ⟨_, w, _⟩ := L1.pen a h
      rw [k2] at w
      cases w
    | fn h => cases hd
    | scr h => cases hd
    | clo h s0 => cases hd
    | lam _ _ _ => cases hd
    | exc0 h m => cases hd
    | exc1 h m g r => cases hd
  | own h n hh r f t =>
    rw [j2] at h
    cases h
def mPar2 (i j : Nat) (m : AS) : SM := fun env p => (m env p).res env fun ss q => match ss with
  | [s, t] => .next ((env.set i s).set j t) q
  | _ => .bad
def mPar3 (i j k : Nat) (m : AS) : SM := fun env p => (m env p).res env fun ss q => match ss with
  | [s, t, u] => .next (((env.set i s).set j t).set k u) q
  | _ => .bad
theorem SReps.len : ∀ {G' H' H : Hp} {vs : List V} {ss : List Slot}, SReps C G' H' H vs ss → vs.length = ss.length
  | _, _, _, _, _, .nil => rfl
  | _, _, _, _, _, .val _ _ t => by rw [List.length_cons, List.length_cons, SReps.len t]
  | _, _, _, _, _, .own _ _ _ _ _ t => by rw [List.length_cons, List.length_cons, SReps.len t]
end
end Pu
end

section
set_option maxHeartbeats 2000000
namespace Pu
open PySem PySem.Spec PyProof.Rows L2

section
variable {X : Cx} {C : Ctx} {W : WX} {pos : Pos} {m : AS} {x y : Str}
/-- no own list of (σ, env) is among the values -/
def NoOwn (σ : St) (env : Env) (vs : List V) : Prop := ∀ (j : Nat) (es : List D) (a : Addr), env[j]? = some (.own es) → σ[j]? = some (some (.ref a)) → V.ref a ∉ vs
theorem SReps.noOwn {G H0 G1 H1 : Hp} {σ : St} {env : Env} {p q : Pen} (L : LOk C G H0 σ env p) (L1 : LOk C G1 H1 σ env q) : ∀ {vs : List V} {ss : List Slot}, SReps C G1 H1 H0 vs ss → NoOwn σ env vs
  | _, _, .nil => fun _ _ _ _ _ z => by cases z
  | _, _, .val r hd t => fun j es a e1 e2 z => by
    rcases List.mem_cons.mp z with e | z
    · exact SReps.new (vs := []) (ss := []) L L1 (.val r hd .nil) j es a e1 e2 e
    · exact SReps.noOwn L L1 t j es a e1 e2 z
  | _, _, .own h n hh r f t => fun j es a e1 e2 z => by
    rcases List.mem_cons.mp z with e | z
    · exact SReps.new (vs := []) (ss := []) L L1 (.own h n hh r (fun z => by cases z) .nil) j es a e1 e2 e
    · exact SReps.noOwn L L1 t j es a e1 e2 z
/-- a slot stored, the rest still to be stored -/
theorem SOk.setR {G0 H0 G H Ha : Hp} {σ : St} {env : Env} {p : Pen} (S : SOk C G0 H0 G H σ env p) (i : Nat) {v : V} {s : Slot} {vs : List V} {ss : List Slot} (r : SReps C G H Ha (v :: vs) (s :: ss)) (h0 : ∀ a, Ha a = none → H0 a = none) (n : NoOwn σ env (v :: vs)) :
    SOk C G0 H0 G H (σ.set i (some v)) (env.set i s) p ∧ NoOwn (σ.set i (some v)) (env.set i s) vs := by
  refine ⟨S.setS i r h0 fun j es a e1 e2 e => n j es a e1 e2 (by rw [e]; exact List.mem_cons_self), fun j es a e1 e2 z => ?_⟩
  rcases set_at e1 with ⟨q1, q2⟩ | ⟨q1, q2⟩
  · rcases set_at e2 with ⟨q3, q4⟩ | ⟨q3, q4⟩
    · subst q2
      cases q4
      cases r with
      | own h n' hh r f t => exact f z
    · exact q3 q1
  · rcases set_at e2 with ⟨q3, q4⟩ | ⟨q3, q4⟩
    · exact q1 q3
    · exact n j es a q2 q4 (List.mem_cons_of_mem _ z)
theorem sm_par2 (i j : Nat) {a b : Expr} {px py pt : Pos} {kt k2 pt2} (hc : X.calm = true) (hN : X.N.Nodup) (ha : PA X [a, b] (rAS C W m)) (hi : X.N[i]? = some x := by rfl) (hj : X.N[j]? = some y := by rfl) (hij : i ≠ j := by decide)
    (hx : X.env.scope.names.lookup x = some .local := by rfl) (hy : X.env.scope.names.lookup y = some .local := by rfl)
    (hw : swappedStores [.Tuple [.Name x px, .Name y py] kt pt] (.Tuple [a, b] k2 pt2) X.env = pure (some [x, y]) := by rfl)
    (hs : swapsWithSole [.Tuple [.Name x px, .Name y py] kt pt] (.Tuple [a, b] k2 pt2) pos.line X.env = pure false := by rfl) :
    PS X (.Assign [.Tuple [.Name x px, .Name y py] kt pt] (.Tuple [a, b] k2 pt2) pos) (rS C W (mPar2 i j m)) := (ps_par hc hN hi hj hij hx hy ha hw hs).of fun D σ H ⟨G0, H0, G, env, p, S, o⟩ => by
  refine ⟨G, env, p, S.l, (o.out S).imp (fun ss q z vs G1 H1 x1 y1 r1 => ?_) fun _ _ z => z⟩
  have S1 := S.step x1 y1
  have nn := r1.noOwn S.l S1.l
  split at z
  · rename_i s t
    obtain ⟨v, w, rfl⟩ : ∃ v w, vs = [v, w] := by
      have e := r1.len
      match vs, e with
      | [v, w], _ => exact ⟨v, w, rfl⟩
    refine ⟨v, w, rfl, ?_⟩
    obtain ⟨S2, n2⟩ := S1.setR i r1 S.x.fre nn
    obtain ⟨S3, _⟩ := S2.setR j r1.tl S.x.fre n2
    exact z _ G1 H1 S3 x1.gro
  · exact z.elim
theorem sm_par3 (i j k : Nat) {w : Str} {a b c : Expr} {px py pz pt : Pos} {kt k2 pt2} (hc : X.calm = true) (hN : X.N.Nodup) (ha : PA X [a, b, c] (rAS C W m)) (hi : X.N[i]? = some x := by rfl) (hj : X.N[j]? = some y := by rfl) (hl : X.N[k]? = some w := by rfl) (hij : i ≠ j := by decide) (hil : i ≠ k := by decide) (hjl : j ≠ k := by decide)
    (hx : X.env.scope.names.lookup x = some .local := by rfl) (hy : X.env.scope.names.lookup y = some .local := by rfl) (hz : X.env.scope.names.lookup w = some .local := by rfl)
    (hw : swappedStores [.Tuple [.Name x px, .Name y py, .Name w pz] kt pt] (.Tuple [a, b, c] k2 pt2) X.env = pure (some [x, y, w]) := by rfl)
    (hs : swapsWithSole [.Tuple [.Name x px, .Name y py, .Name w pz] kt pt] (.Tuple [a, b, c] k2 pt2) pos.line X.env = pure false := by rfl) :
    PS X (.Assign [.Tuple [.Name x px, .Name y py, .Name w pz] kt pt] (.Tuple [a, b, c] k2 pt2) pos) (rS C W (mPar3 i j k m)) := (ps_par3 hc hN hi hj hl hij hil hjl hx hy hz ha hw hs).of fun D σ H ⟨G0, H0, G, env, p, S, o⟩ => by
  refine ⟨G, env, p, S.l, (o.out S).imp (fun ss q z vs G1 H1 x1 y1 r1 => ?_) fun _ _ z => z⟩
  have S1 := S.step x1 y1
  have nn := r1.noOwn S.l S1.l
  split at z
  · rename_i s t u
    obtain ⟨v1, v2, v3, rfl⟩ : ∃ v1 v2 v3, vs = [v1, v2, v3] := by
      have e := r1.len
      match vs, e with
      | [v, w, u], _ => exact ⟨v, w, u, rfl⟩
    refine ⟨v1, v2, v3, rfl, ?_⟩
    obtain ⟨S2, n2⟩ := S1.setR i r1 S.x.fre nn
    obtain ⟨S3, n3⟩ := S2.setR j r1.tl S.x.fre n2
    obtain ⟨S4, _⟩ := S3.setR k r1.tl.tl S.x.fre n3
    exact z _ G1 H1 S4 x1.gro
  · exact z.elim
end

/-! ### a list of the frame's own frozen for good -/
def mFrzS (i : Nat) (m : SM) : SM := fun env p => match env[i]? with
  | some (.own ds) => m (env.set i (.val (.lst ds))) p
  | _ => .bad
theorem SOk.frzS {C : Ctx} {G0 H0 G H : Hp} {σ : St} {env : Env} {p : Pen} (S : SOk C G0 H0 G H σ env p) {i : Nat} {ds : List D} (h : env[i]? = some (.own ds)) : ∃ G1, SOk C G0 H0 G1 H σ (env.set i (.val (.lst ds))) p ∧ Sub G G1 := by
  obtain ⟨l, vs, h1, h2, h3, h4⟩ := S.l.own h
  have s1 : Sub G (upd G l (.lst vs)) := sub_upd h3
  have pl : ∀ a, C.pa = some a → a ≠ l := fun a e z => by
    obtain ⟨_, q, _⟩ := S.l.pen a e
    rw [z, h2] at q
    cases q
  refine ⟨upd G l (.lst vs), ⟨⟨sub_froz S.l.sub h2, S.l.tab, fun a e => ?_, by rw [List.length_set, S.l.len], fun j x s q1 q2 => ?_, fun j k ds es a q1 q2 q3 q4 => ?_, fun p hp => (upd_ne (fun z => by obtain ⟨_, t, _⟩ := S.l.tab.tabs p hp; rw [z, h2] at t; cases t)).trans (S.l.nt p hp)⟩, ⟨sub_froz S.l.sub h2, S.x.gro.trans s1, fun a o e => ?_, S.x.kee, S.x.fre, S.x.tab⟩, fun j es a q1 q2 => ?_⟩, s1⟩
  · obtain ⟨n, q1, q2⟩ := S.l.pen a e
    exact ⟨by rw [upd_ne (pl a e)]; exact n, q1, s1 _ _ q2⟩
  · rcases set_at q2 with ⟨z1, z2⟩ | ⟨z1, z2⟩
    · subst z1 z2
      rw [h1] at q1
      cases q1
      exact .val (.lst upd_same (h4.mono s1))
    · have s0 := S.l.slot j x s q1 z2
      cases s0 with
      | un => exact .un _
      | val r => exact .val (r.mono s1)
      | @own a vs2 ds2 w1 w2 w3 =>
        refine .own w1 ?_ (w3.mono s1)
        have na : a ≠ l := fun z => z1 (S.l.dis j i _ _ a z2 h q1 (by rw [z]; exact h1))
        rw [upd_ne na]
        exact w2
  · rcases set_at q1 with ⟨_, z⟩ | ⟨_, q1⟩
    · cases z
    · rcases set_at q2 with ⟨_, z⟩ | ⟨_, q2⟩
      · cases z
      · exact S.l.dis j k _ _ a q1 q2 q3 q4
  · by_cases ha : a = l
    · subst ha
      exact .inr (.inl (S.f i ds a h h1))
    · rw [upd_ne ha] at e
      exact S.x.new a o e
  · rcases set_at q1 with ⟨_, z⟩ | ⟨_, q1⟩
    · cases z
    · exact S.f j es a q1 q2
theorem ss_frz {X : Cx} {C : Ctx} {W : WX} (i : Nat) {sts : List Stmt} {m : SM} (h : PSs X sts (rS C W m)) : PSs X sts (rS C W (mFrzS i m)) := h.of fun D σ H ⟨G0, H0, G, env, p, S, o⟩ => by
  unfold mFrzS at o
  split at o
  · rename_i ds hi
    obtain ⟨G1, S1, s1⟩ := S.frzS hi
    exact ⟨G0, H0, G1, _, p, S1, o.gro s1⟩
  · exact o.elim
theorem s_frz {X : Cx} {C : Ctx} {W : WX} (i : Nat) {st : Stmt} {m : SM} (h : PS X st (rS C W m)) : PS X st (rS C W (mFrzS i m)) := h.of fun D σ H ⟨G0, H0, G, env, p, S, o⟩ => by
  unfold mFrzS at o
  split at o
  · rename_i ds hi
    obtain ⟨G1, S1, s1⟩ := S.frzS hi
    exact ⟨G0, H0, G1, _, p, S1, o.gro s1⟩
  · exact o.elim
/-- a slot forgotten -/
def mFgt (i : Nat) (m : SM) : SM := fun env p => m (env.set i .un) p
end Pu
end

section
set_option maxHeartbeats 2000000
namespace Pu
open PySem PySem.Spec PyProof.Rows L2

/-! ### list comprehensions -/
def wipeE (env : Env) : List Nat → Env
  | [] => env
  | v :: vs => (wipeE env vs).set v .un
theorem LOk.wipe {C : Ctx} {G H : Hp} {σ : St} {env : Env} {p : Pen} (L : LOk C G H σ env p) : ∀ vs : List Nat, LOk C G H (L2.wipe σ vs) (wipeE env vs) p
  | [] => L
  | v :: vs => (LOk.wipe L vs).setU v
theorem Less.wipe {σ : St} {env : Env} : ∀ vs : List Nat, Less (L2.wipe σ vs) (wipeE env vs) σ env
  | [] => Less.refl _ _
  | v :: vs => (Less.setU v).trans (Less.wipe vs)
theorem wipe_in {σ : St} {i : Nat} : ∀ {vs : List Nat}, i ∈ vs → i < σ.length → (L2.wipe σ vs)[i]? = some none
  | v :: vs, h, hl => by
    unfold L2.wipe
    by_cases e : i = v
    · subst e
      rw [List.getElem?_set_self (by rw [wipe_length]; exact hl)]
    · rw [List.getElem?_set_ne (fun z => e z.symm)]
      rcases List.mem_cons.mp h with z | z
      · exact absurd z e
      · exact wipe_in z hl
theorem wipe_same {σ σ' : St} {is vs : List Nat} (s : Same is σ' (L2.wipe σ vs)) (h : ∀ i ∈ is, i ∈ vs) : L2.wipe σ' vs = L2.wipe σ vs := by
  apply List.ext_getElem?
  intro i
  have hl : σ'.length = σ.length := by rw [s.len, wipe_length]
  by_cases hi : i ∈ vs
  · by_cases h2 : i < σ.length
    · rw [wipe_in hi h2, wipe_in hi (by rw [hl]; exact h2)]
    · rw [List.getElem?_eq_none (by rw [wipe_length]; omega), List.getElem?_eq_none (by rw [wipe_length]; omega)]
  · rw [wipe_out hi, s.out i (fun z => hi (h i z))]
/-- errors are not borne here -/
def _root_.Pu.Out.ne {α : Type} (o : Out α) : Out α := match o with
  | .ok a p => .ok a p
  | _ => .bad
theorem OutP.ne {α : Type} {o : Out α} {f : α → Pen → Prop} {g g' : Err → Pen → Prop} (h : OutP o.ne f g) : OutP o f g' := by
  cases o
  · exact h
  · exact False.elim h
  · exact h
def compL (g : GM) (tt : TM) (te : EM) (env : Env) : List D → Pen → Out (List D)
  | [], p => .ok [] p
  | d :: ds, p => match g d env with
    | none => .bad
    | some env1 => (tt env1 p).ne.bind fun k p1 => if k = true then (te env1 p1).ne.bind fun x p2 => (compL g tt te env ds p2).bind fun xs p3 => .ok (x :: xs) p3 else compL g tt te env ds p1
def mComp (it : AM) (vs : List Nat) (g : GM) (tt : TM) (te : EM) : AM := fun env p => (it env p).bind fun ds q => if ds.length ≤ sizeLine then compL g tt te (wipeE env vs) ds q else .bad
abbrev W0 : WX := fun _ _ _ _ => False
def tmYes : TM := fun _ p => .ok true p
/-- the new list's own place -/
theorem LOk.updF {C : Ctx} {G H : Hp} {σ : St} {env : Env} {p : Pen} (L : LOk C G H σ env p) {l : Addr} {vs ys : List V} (h : H l = some (.lst vs)) (g : G l = none) (n : ∀ (j : Nat) (es : List D), env[j]? = some (.own es) → σ[j]? ≠ some (some (.ref l))) : LOk C G (upd H l (.lst ys)) σ env p := by
  refine ⟨fun a o e => ?_, tabs_upd L.tab h, fun a e => ?_, L.len, fun j x s q1 q2 => ?_, L.dis, L.nt⟩
  · rw [upd_ne (ne_of_none e g)]
    exact L.sub a o e
  · obtain ⟨k1, k2, k3⟩ := L.pen a e
    refine ⟨k1, ?_, k3⟩
    rw [upd_ne (ne_of k2 h (by intro w; cases w))]
    exact k2
  · have s0 := L.slot j x s q1 q2
    cases s0 with
    | un => exact .un _
    | val r => exact .val r
    | @own a vs2 ds2 w1 w2 w3 =>
      refine .own ?_ w2 w3
      rw [upd_ne (fun z => n j _ q2 (by rw [q1, z]))]
      exact w1
theorem Ext.updF {C : Ctx} {G0 H0 G H : Hp} (x : Ext C G0 H0 G H) {l : Addr} {vs ys : List V} (h : H l = some (.lst vs)) (g : G l = none) (h0 : H0 l = none) : Ext C G0 H0 G (upd H l (.lst ys)) := by
  refine ⟨fun a o e => ?_, x.gro, x.new, fun a o e n1 n2 => ?_, fun a e => ?_, tabs_upd x.tab h⟩
  · rw [upd_ne (ne_of_none e g)]
    exact x.sub a o e
  · rw [upd_ne (ne_of_none e h0)]
    exact x.kee a o e n1 n2
  · by_cases na : a = l
    · rw [na, upd_same] at e
      cases e
    · rw [upd_ne na] at e
      exact x.fre a e
section
variable {X : Cx} {C : Ctx} {W : WX} {fz : Bool} {it : AM} {vs is : List Nat} {g : GM} {tt : TM} {te : EM}
theorem Ext.kept {G H G' H' : Hp} (x : Ext C G H G' H') : Kept C fz H H' := fun _ a o e n1 n2 => x.kee a o e n1 n2
theorem rd_lc (hv : ∀ i ∈ is, i ∈ vs) {σ : St} {H : Hp} {Q : VK} (h : rF C W (mComp it vs g tt te) σ H Q) : tLc (rI C W false it) (rG C is g) (rT C W0 tt) (rE C W0 te) vs σ H Q := by
  obtain ⟨G, env, p, L, o⟩ := h
  refine ⟨G, env, p, L, o.bind.imp (fun ds q z J G1 H1 x1 y1 t => ?_) fun _ _ z => z⟩
  intro l hl
  split at z
  · rename_i hz
    obtain ⟨Gw, Y, w, w1, w2⟩ := t
    have L1 := L.step x1 y1
    have hgl : G1 l = none := free_of x1.sub hl
    have al0 : Alc G1 H1 G1 (upd H1 l (.lst [])) := Alc.own x1.sub hl
    have nl : ∀ (j : Nat) (es : List D), (wipeE env vs)[j]? = some (.own es) → (L2.wipe σ vs)[j]? ≠ some (some (.ref l)) := fun j es e1 e2 => by
      obtain ⟨q1, q2⟩ := Less.wipe vs j es l e1 e2
      exact L1.notOwn (G1 := G1) hl j es q1 q2
    refine lc_it w (fun i H' => ∃ G' p' acc ad, LOk C G' H' (L2.wipe σ vs) (wipeE env vs) p' ∧ Ext C G1 H1 G' H' ∧ G' l = none ∧ H' l = some (.lst acc) ∧ Reps C G' acc ad ∧ acc.length ≤ i ∧
      OutP (compL g tt te (wipeE env vs) (ds.drop i) p') (fun xs q => ∀ a ws G2 H2, Ext C G H G2 H2 → PenAt C G2 H2 q → H a = none → G2 a = none → H2 a = some (.lst ws) → Reps C G2 ws (ad ++ xs) → Q (.ref a) H2) (ErrP C W G H σ)) ?_ ?_ ?_ ?_
    · refine ⟨G1, q, [], [], (L1.alc al0).wipe vs, L1.ext al0, hgl, upd_same, .nil, Nat.le_refl _, ?_⟩
      rw [List.drop_zero]
      exact z
    · rintro i H' hi ⟨G', p', acc, ad, L', x', g', h', r', n', o'⟩
      exact w1 G' H' x'.gro L'.sub x'.kept
    · rintro i x H' H'' hi ⟨G', p', acc, ad, L', x', g', h', r', n', o'⟩ y
      have hd : ds[i]? = some ds[i] := List.getElem?_eq_getElem hi
      obtain ⟨G2, al, rx⟩ := w2 i ds[i] G' H' x H'' hd x'.gro L'.sub y
      have L2' := L'.alc al
      rw [List.drop_eq_getElem_cons hi] at o'
      unfold compL at o'
      cases eg : g ds[i] (wipeE env vs) with
      | none =>
        rw [eg] at o'
        exact o'.elim
      | some env1 =>
        rw [eg] at o'
        have o1 : OutP ((tt env1 p').ne.bind fun k p1 => if k = true then (te env1 p1).ne.bind fun x p2 => (compL g tt te (wipeE env vs) (ds.drop (i + 1)) p2).bind fun xs p3 => .ok (x :: xs) p3 else compL g tt te (wipeE env vs) (ds.drop (i + 1)) p1) _ _ := o'
        refine ⟨G2, wipeE env vs, p', ds[i], env1, L2', rx, eg, fun σ2 Ls _ sm => ⟨wipe_same sm hv, G2, env1, p', Ls, o1.bind.ne.imp (fun k q2 z2 G3 H3 x3 y3 => ?_) fun _ _ z => z⟩⟩
        have x13 := (x'.trans (L'.ext al)).trans x3
        have L3 := L2'.step x3 y3
        have keepD : ∀ {G4 H4 : Hp} {q4 : Pen}, Ext C G2 H'' G4 H4 → PenAt C G4 H4 q4 → H4 l = some (.lst acc) ∧ G4 l = none := fun {G4 H4 q4} x4 y4 => by
          have e2 : H'' l = some (.lst acc) := al.kee _ _ h'
          have e3 := x4.stayL L2'.pen e2
          refine ⟨e3, ?_⟩
          cases e : G4 l with
          | none => rfl
          | some o =>
            rcases x4.new l o e with u | u | ⟨c, u⟩
            · rcases al.new l o u with v | v
              · rw [g'] at v
                cases v
              · rw [h'] at v
                cases v
            · rw [e2] at u
              cases u
            · rw [x4.sub _ _ e, u] at e3
              cases e3
        cases k with
        | false =>
          rw [if_neg Bool.false_ne_true] at z2
          show if false = true then _ else _
          rw [if_neg Bool.false_ne_true]
          obtain ⟨k1, k2⟩ := keepD x3 y3
          exact ⟨G3, q2, acc, ad, L3, x13, k2, k1, (r'.mono al.gro).mono x3.gro, by omega, z2⟩
        | true =>
          rw [if_pos rfl] at z2
          show if true = true then _ else _
          rw [if_pos rfl]
          refine ⟨G3, env1, q2, Ls.step x3 y3, z2.bind.ne.imp (fun d q4 z4 v G4 H4 x4 y4 r4 => ?_) fun _ _ z => z⟩
          have x34 := x3.trans x4
          obtain ⟨k1, k2⟩ := keepD x34 y4
          have L4 := L3.step x4 y4
          have x14 := x13.trans x4
          refine ⟨acc, k1, by omega, G4, q4, acc ++ [v], ad ++ [d], L4.updF k1 k2 nl, x14.updF k1 k2 hl, k2, upd_same, (((r'.mono al.gro).mono x3.gro).mono x4.gro).append (Reps.one r4), by rw [List.length_append, List.length_singleton]; omega, z4.bind.imp (fun xs q5 z5 a ws G5 H5 e1 e2 e3 e4 e5 e6 => z5 a ws G5 H5 e1 e2 e3 e4 e5 (by rw [List.append_assoc] at e6; exact e6)) fun _ _ z => z⟩
    · rintro H' ⟨G', p', acc, ad, L', x', g', h', r', n', o'⟩
      rw [List.drop_length] at o'
      exact o' l acc G' H' (x1.trans x') L'.pen (x1.fre _ hl) g' h' (by rw [List.append_nil]; exact r')
  · exact z.elim
end
end Pu
end

section
set_option maxHeartbeats 2000000
namespace Pu
open PySem PySem.Spec PyProof.Rows L2

section
variable {X : Cx} {C : Ctx} {W : WX} {it : AM} {is : List Nat} {g : GM} {tt : TM} {te : EM} {elt tg iter : Expr} {ifs : List Expr} {scope : Scope} {own : List (Str × Nat)} {pos : Pos}
theorem pts_of {Y : Cx} {ifs : List Expr} {t t' : TT} (h : PTs Y ifs t) (i : ∀ σ H Q, t' σ H Q → t σ H Q) : PTs Y ifs t' := ⟨fun pins s σ H Q I z => h.run pins s σ H Q I (i _ _ _ z)⟩
theorem tms_nil {Y : Cx} : PTs Y [] (rT C W0 tmYes) := pts_of pts_nil fun σ H Q ⟨G, env, p, L, o⟩ => o G H (Ext.refl L.sub L.tab) L.pen
theorem tms_one {Y : Cx} {c : Expr} (h : PT Y c (rT C W0 tt)) : PTs Y [c] (rT C W0 tt) := pts_one h
theorem pm_lc (hc : X.calm = true) (hN : X.N.Nodup) (hi : PI X tg iter (rI C W false it)) (ok : BlkOk X.N X.env.scope scope own)
    (hg : ∀ (s : Shared) (H : Hp) (Cb : Addr) (cl : List (Str × Addr)) (fp : List Addr), PG (X.blk s H scope (compEnvC scope cl Cb X.env) fp) tg (rG C is g)) (ht : ∀ (s : Shared) (H : Hp) (Cb : Addr) (cl : List (Str × Addr)) (fp : List Addr), PTs (X.blk s H scope (compEnvC scope cl Cb X.env) fp) ifs (rT C W0 tt))
    (he : ∀ (s : Shared) (H : Hp) (Cb : Addr) (cl : List (Str × Addr)) (fp : List Addr), PE (X.blk s H scope (compEnvC scope cl Cb X.env) fp) elt (rE C W0 te)) (hv : ∀ i ∈ is, i ∈ own.map (·.2) := by decide) (hs : ∀ x, foldedSetIterable iter X.env x = pure x := by intro _; rfl) :
    PE X (.ListComp elt [⟨tg, iter, ifs, 0⟩] scope pos) (rF C W (mComp it (own.map (·.2)) g tt te)) := (pe_lc hc hN hi ok hg ht he hs).of fun σ H Q h => rd_lc hv h
/-- name = [..] on one line -/
theorem sm_setLc (i : Nat) {y : Str} {py spos : Pos} (hc : X.calm = true) (hN : X.N.Nodup) (hi : PI X tg iter (rI C W false it)) (ok : BlkOk X.N X.env.scope scope own)
    (hg : ∀ (s : Shared) (H : Hp) (Cb : Addr) (cl : List (Str × Addr)) (fp : List Addr), PG (X.blk s H scope (compEnvC scope cl Cb X.env) fp) tg (rG C is g)) (ht : ∀ (s : Shared) (H : Hp) (Cb : Addr) (cl : List (Str × Addr)) (fp : List Addr), PTs (X.blk s H scope (compEnvC scope cl Cb X.env) fp) ifs (rT C W0 tt))
    (he : ∀ (s : Shared) (H : Hp) (Cb : Addr) (cl : List (Str × Addr)) (fp : List Addr), PE (X.blk s H scope (compEnvC scope cl Cb X.env) fp) elt (rE C W0 te)) (hv : ∀ i ∈ is, i ∈ own.map (·.2) := by decide) (hy : X.N[i]? = some y := by rfl) (hyl : X.env.scope.names.lookup y = some .local := by rfl)
    (hsw : swapsWith (.ListComp elt [⟨tg, iter, ifs, 0⟩] scope pos) (some (.Name y py)) spos.line X.env = pure true := by rfl) (hs : ∀ x, foldedSetIterable iter X.env x = pure x := by intro _; rfl) :
    PS X (.Assign [.Name y py] (.ListComp elt [⟨tg, iter, ifs, 0⟩] scope pos) spos) (rS C W (mSetO (mComp it (own.map (·.2)) g tt te) i)) := (ps_setLc hc hN hy hyl hsw hi ok hg ht he hs).of fun D σ H h => rd_lc hv (rd_setO h)
end

/-! ### defs -/
def env0 (n : Nat) (ds : List D) : Env := ds.map Slot.val ++ List.replicate (n - ds.length) Slot.un
def _root_.Pu.Res.fin (r : Res) : Out D := match r with
  | .next _ p => .ok .non p
  | .ret d p => .ok d p
  | .err e _ p => .err e p
  | _ => .bad
/-- a def's mirror by its body's -/
def mDef (n : Nat) (m : SM) : FM := fun ds p => (m (env0 n ds) p).fin
theorem start_ok {C : Ctx} {G H : Hp} {N : List Str} {vs : List V} {ds : List D} {p : Pen} (s : Sub G H) (t : Tb C H) (n : NT C G) (y : PenAt C G H p) (r : Reps C G vs ds) : LOk C G H (L2.start N vs) (env0 N.length ds) p := by
  have e0 : (L2.start N vs).length = (env0 N.length ds).length := by
    unfold L2.start env0
    rw [List.length_append, List.length_append, List.length_map, List.length_map, List.length_replicate, List.length_replicate, r.length]
  have own : ∀ (i : Nat) (es : List D), (env0 N.length ds)[i]? ≠ some (.own es) := fun i es e => by
    unfold env0 at e
    by_cases hi : i < ds.length
    · rw [List.getElem?_append_left (by rw [List.length_map]; exact hi), List.getElem?_map, List.getElem?_eq_getElem hi] at e
      cases e
    · rw [List.getElem?_append_right (by rw [List.length_map]; omega), List.getElem?_replicate] at e
      split at e
      · cases e
      · cases e
  refine ⟨s, t, y, e0, fun i x sl h1 h2 => ?_, fun i j es fs a h1 _ _ _ => absurd h1 (own i es), n⟩
  unfold L2.start at h1
  unfold env0 at h2
  by_cases hi : i < ds.length
  · rw [List.getElem?_append_left (by rw [List.length_map]; exact hi), List.getElem?_map, List.getElem?_eq_getElem hi] at h2
    have hi2 : i < vs.length := by rw [r.length]; exact hi
    rw [List.getElem?_append_left (by rw [List.length_map]; exact hi2), List.getElem?_map, List.getElem?_eq_getElem hi2] at h1
    cases h1
    cases h2
    obtain ⟨d, k1, k2⟩ := r.getL (List.getElem?_eq_getElem hi2)
    rw [List.getElem?_eq_getElem hi] at k1
    cases k1
    exact .val k2
  · rw [List.getElem?_append_right (by rw [List.length_map]; omega), List.getElem?_replicate] at h2
    split at h2
    · cases h2
      exact .un _
    · cases h2
theorem start_sok {C : Ctx} {G H : Hp} {N : List Str} {vs : List V} {ds : List D} {p : Pen} (s : Sub G H) (t : Tb C H) (n : NT C G) (y : PenAt C G H p) (r : Reps C G vs ds) : SOk C G H G H (L2.start N vs) (env0 N.length ds) p := by
  refine ⟨start_ok s t n y r, Ext.refl s t, fun i es a e => ?_⟩
  unfold env0 at e
  by_cases hi : i < ds.length
  · rw [List.getElem?_append_left (by rw [List.length_map]; exact hi), List.getElem?_map, List.getElem?_eq_getElem hi] at e
    cases e
  · rw [List.getElem?_append_right (by rw [List.length_map]; omega), List.getElem?_replicate] at e
    split at e
    · cases e
    · cases e
/-- what a def's body is told: all but where the call stands -/
abbrev Body (gd : Bool) (C : Ctx) (P : Program) (w : World) (base : Heap) (N : List Str) (qual : Str) (scope : Scope) (f : Addr) (cd : Value) (k : Nat) (body : List Stmt) (m : SM) : Prop :=
  ∀ (A : Around) (outer : List PySem.Env) (s : Shared) (H : Hp) (E : XK), Wk (cxOf (L2.CX P w) P w C.K C.mg base N qual scope f cd A outer s H E) C (fun cls d _ H => E cls d H) gd k → PSs (cxOf (L2.CX P w) P w C.K C.mg base N qual scope f cd A outer s H E) body (rS C (fun cls d _ H => E cls d H) m)
theorem fn_pu {gd : Bool} {C : Ctx} {P : Program} {w : World} {base : Heap} {k : Nat} {f : Addr} {name qual : Str} {params : Arguments} {body : List Stmt} {scope : Scope} {dV kV doc pm cdv ct oc : Value} {an od : Option Addr}
    {osl : Array (Option Value)} {N ps : List Str} {m : SM} (lk : C.K.lookup f = some ⟨oc, od, .func (PySem.W.fnOf name qual params body scope dV kV doc pm an cdv ct), osl⟩) (hcd : PySem.W.codeIn C.K cdv qual = true) (S : FnScope N ps scope) (hx : C.ex = none)
    (hb : Body gd C P w base N qual scope f cdv k body m) :
    FnA gd P w C.K C.mg base (L2.CX P w) (k + 1) f (PySem.W.fnOf name qual params body scope dV kV doc pm an cdv ct) ps (spM C (mDef N.length m) ps.length) := by
  refine ⟨fun vs H Q E ⟨_, _, _, h, _⟩ => h, fun A outer s H args us vs Q E hr hg e0 hbi r hsp => ?_⟩
  obtain ⟨G, ds, p, hl, hs, ht, hn, hy, hr', ho⟩ := hsp
  refine LamX.run_ofS (CX := L2.CX P w) lk hcd S hr e0 hbi r hl fun room => ⟨_, hb A outer s H E ⟨rfl, rfl, room, hg, takes_of rfl rfl rfl rfl, hx⟩, G, H, G, env0 N.length ds, p, start_sok hs ht hn hy hr', ?_⟩
  unfold mDef at ho
  cases e : m (env0 N.length ds) p with
  | next env q =>
    rw [e] at ho
    exact fun σ' G' H' S' _ => ho .non G' H' S'.x S'.l.pen .non
  | ret d q =>
    rw [e] at ho
    exact ho
  | err er env q =>
    rw [e] at ho
    exact fun cls dd σ' G' H' S' _ r => ho cls dd G' H' S'.x S'.l.pen r
  | brk env q =>
    rw [e] at ho
    exact ho.elim
  | cnt env q =>
    rw [e] at ho
    exact ho.elim
  | bad =>
    rw [e] at ho
    exact ho.elim
theorem Wk.blk {X : Cx} {C : Ctx} {W : WX} {gd : Bool} {k : Nat} (w : Wk X C W gd k) (s : Shared) (H : Hp) (scope : Scope) (Cb : Addr) (cl : List (Str × Addr)) (fp : List Addr) : Wk (X.blk s H scope (compEnvC scope cl Cb X.env) fp) C W0 gd k := ⟨w.K, w.mg, w.room, w.gd, takes0, w.cold⟩
end Pu
end

section
set_option maxHeartbeats 2000000
namespace Pu
open PySem PySem.Spec PyProof.Rows L2

/-! ### the end of a law: its def called by the caller itself (no repr is under way there) -/
/-- what is tracked at the start: the empty tables, sys.modules, the script (where it is none of the written part's objects) -/
def seen (ts : List Addr) (m : HO) (a : Addr) (fr : Bool) (o : HO) : Hp := fun b => if b ∈ ts then some (.tbl #[]) else if b = sysModules then some m else if b = a ∧ fr = true then some o else none
section
variable {ts : List Addr} {a b : Addr} {fr : Bool} {o u m : HO}
theorem seen_tab (h : b ∈ ts) : seen ts m a fr o b = some (.tbl #[]) := if_pos h
theorem seen_mods (h : sysModules ∉ ts) : seen ts m a fr o sysModules = some m := by
  unfold seen
  rw [if_neg h, if_pos rfl]
theorem seen_script (h : a ∉ ts) (h2 : a ≠ sysModules) (hf : fr = true) : seen ts m a fr o a = some o := by
  unfold seen
  rw [if_neg h, if_neg h2, if_pos ⟨rfl, hf⟩]
theorem seen_none (h : b ∉ ts) (h1 : b ≠ sysModules) (h2 : ¬ (b = a ∧ fr = true)) : seen ts m a fr o b = none := by
  unfold seen
  rw [if_neg h, if_neg h1, if_neg h2]
theorem seen_some (h : seen ts m a fr o b = some u) : (b ∈ ts ∧ u = .tbl #[]) ∨ (b ∉ ts ∧ b = sysModules ∧ u = m) ∨ (b ∉ ts ∧ b = a ∧ fr = true ∧ u = o) := by
  unfold seen at h
  by_cases h1 : b ∈ ts
  · rw [if_pos h1] at h
    exact .inl ⟨h1, (Option.some.inj h).symm⟩
  · rw [if_neg h1] at h
    by_cases h3 : b = sysModules
    · rw [if_pos h3] at h
      exact .inr (.inl ⟨h1, h3, (Option.some.inj h).symm⟩)
    · rw [if_neg h3] at h
      by_cases h2 : b = a ∧ fr = true
      · rw [if_pos h2] at h
        exact .inr (.inr ⟨h1, h2.1, h2.2, (Option.some.inj h).symm⟩)
      · rw [if_neg h2] at h
        cases h
end
/-- what the head has told of the heap at which the law is called -/
structure Told (P : Program) (w : World) (K : PySem.W.Frag) (mg mb : Str → Option Value) (s : Shared) (a : Addr) (vs : List Value) (ns : List Int) (cs : List (Addr × Addr)) (om : Obj) : Prop where
  kin : K.In s.heap
  glob : s.heap.Ns mainGlobals mg
  blt : s.heap.Ns builtinsNs mb
  boot : ∀ x : Str, x ≠ "__name__" → mb x = bootBuiltins x
  lim : s.heap.NoLimit
  gens : s.gens = #[]
  tab : ∀ p ∈ cs, s.heap.get? p.2 = some { cls := .none, data := .fields #[] }
  out : ∀ p ∈ cs, K.lookup p.2 = none
  code : ∀ p ∈ cs, PySem.W.CodeHd s.heap p.1 p.2
  bm : ∃ (bm : Addr) (ob : Obj), mg "__builtins__" = some (.ref bm) ∧ bm ≠ builtinsNs ∧ s.heap.get? bm = some ob ∧ ob.cls = .type "module" ∧ ob.dict = some builtinsNs ∧ ob.data = .plain
  script : s.heap.get? a = some { cls := .type "list", data := .seq vs.toArray }
  are : IntsAre vs ns
  line : ns.length ≤ sizeLine
  mods : s.heap.get? sysModules = some om
  modsD : ∃ es n, om.data = .dict es n
  modsK : K.lookup sysModules = none
section
variable {P : Program} {w : World} {K : PySem.W.Frag} {mg mb : Str → Option Value} {s : Shared} {a : Addr} {vs : List Value} {ns : List Int} {cs : List (Addr × Addr)} {om : Obj}
def Told.ts (_ : Told P w K mg mb s a vs ns cs om) : List Addr := cs.map (·.2)
/-- the heap as the law's proof sees it -/
def Told.hp (t : Told P w K mg mb s a vs ns cs om) : Hp := seen t.ts (.frz om (.own 0)) a (K.lookup a).isNone (.frz { cls := .type "list", data := .seq vs.toArray } (.lst (ns.map V.int)))
theorem Told.isTab (t : Told P w K mg mb s a vs ns cs om) {b : Addr} (h : b ∈ t.ts) : s.heap.get? b = some { cls := .none, data := .fields #[] } := by
  obtain ⟨p, h1, h2⟩ := List.mem_map.mp h
  exact h2 ▸ t.tab p h1
theorem Told.mem (t : Told P w K mg mb s a vs ns cs om) {p : Addr × Addr} (h : p ∈ cs) : p.2 ∈ t.ts := List.mem_map.mpr ⟨p, h, rfl⟩
theorem Told.aT (t : Told P w K mg mb s a vs ns cs om) : a ∉ t.ts := fun h => by
  have e := (t.isTab h).symm.trans t.script
  cases congrArg (fun q : Option Obj => q.map (·.data)) e
theorem Told.mT (t : Told P w K mg mb s a vs ns cs om) : sysModules ∉ t.ts := fun h => by
  have e := (t.isTab h).symm.trans t.mods
  obtain ⟨es, n, d⟩ := t.modsD
  cases e
  cases d
theorem Told.aM (t : Told P w K mg mb s a vs ns cs om) : a ≠ sysModules := fun h => by
  obtain ⟨es, n, d⟩ := t.modsD
  have e := t.script
  rw [h, t.mods] at e
  cases e
  cases d
/-- an object of another kind is not tracked -/
theorem Told.other (t : Told P w K mg mb s a vs ns cs om) {b : Addr} {o : Obj} (e : s.heap.get? b = some o) (h0 : b ≠ sysModules) (h1 : o.data ≠ .seq vs.toArray 0) (h2 : o.data ≠ .fields #[]) : t.hp b = none := by
  refine seen_none (fun h => h2 ?_) h0 fun h => h1 ?_
  · have q := e.symm.trans (t.isTab h)
    cases q
    rfl
  · have q := t.script
    rw [← h.1, e] at q
    cases q
    rfl
theorem Told.see (t : Told P w K mg mb s a vs ns cs om) {b : Addr} {o : Obj} (e : s.heap.get? b = some o) (h0 : b ≠ sysModules) (h1 : o.data ≠ .seq vs.toArray 0) (h2 : o.data ≠ .fields #[]) : (hidT s.heap t.hp).get? b = some o := hidT_get e (t.other e h0 h1 h2)
theorem Told.nM (t : Told P w K mg mb s a vs ns cs om) {b : Addr} {o : Obj} (e : s.heap.get? b = some o) (h : ∀ es n, o.data ≠ .dict es n) : b ≠ sysModules := fun z => by
  obtain ⟨es, n, d⟩ := t.modsD
  rw [z, t.mods] at e
  cases e
  exact h _ _ d
theorem Told.hok (t : Told P w K mg mb s a vs ns cs om) : HOk P w t.hp s.heap := fun b u h => by
  rcases seen_some h with ⟨h1, h2⟩ | ⟨_, h1, h2⟩ | ⟨_, h1, _, h2⟩
  · rw [h2]
    exact t.isTab h1
  · rw [h1, h2]
    exact ⟨t.mods, _, t.mods⟩
  · rw [h1, h2]
    exact ⟨t.script, (List.length_map (as := ns) V.int).symm ▸ t.line, vs, 0, vals_ints t.are, t.script⟩
theorem Told.nsp (t : Told P w K mg mb s a vs ns cs om) {b : Addr} {m : Str → Option Value} (h : s.heap.Ns b m) (hb : b ≠ sysModules) : (hidT s.heap t.hp).Ns b m := by
  obtain ⟨ob, es, k, e, d, rest⟩ := h
  refine ⟨ob, es, k, t.see e hb ?_ ?_, d, rest⟩ <;> (rw [d]; intro z; cases z)
theorem Told.kb (t : Told P w K mg mb s a vs ns cs om) : K.In (hidT s.heap t.hp) := fun b ob e => by
  refine hidT_get (t.kin b ob e) (seen_none (fun h => ?_) (fun h => ?_) fun h => ?_)
  · obtain ⟨p, h1, h2⟩ := List.mem_map.mp h
    rw [← h2, t.out p h1] at e
    cases e
  · rw [h, t.modsK] at e
    cases e
  · rw [h.1] at e
    rw [e] at h
    cases h.2
theorem Told.mod (t : Told P w K mg mb s a vs ns cs om) : L2.Mod K mg (hidT s.heap t.hp) := ⟨t.kb, t.nsp t.glob (by decide), ⟨mb, t.nsp t.blt (by decide), t.boot⟩, t.lim.elim fun m h => ⟨m, t.nsp h.1 (by decide), h.2⟩⟩
theorem Told.tabB (t : Told P w K mg mb s a vs ns cs om) {p : Addr × Addr} (hp : p ∈ cs) : LamX.TabB (hidT s.heap t.hp) mg p.1 p.2 := by
  have dg : mainGlobals ≠ p.2 := fun z => by
    obtain ⟨ob, es, k, e, d, _⟩ := t.glob
    rw [z, t.tab p hp] at e
    cases e
    cases d
  refine ⟨?_, ?_, dg⟩
  · obtain ⟨ob, us, c1, c2, c3, c4, c5, c6, c7, e, dc, d, sz, rest⟩ := t.code p hp
    refine ⟨ob, us, c1, c2, c3, c4, c5, c6, c7, t.see e (t.nM e fun _ _ z => by rw [d] at z; cases z) (fun z => ?_) (fun z => ?_), dc, d, sz, rest⟩
    · rw [d] at z
      cases z
    · rw [d] at z
      cases z
      simp at sz
  · obtain ⟨bm, ob, k1, k2, k3, k4, k5, k6⟩ := t.bm
    refine ⟨bm, ob, k1, k2, fun z => ?_, fun z => ?_, t.see k3 (t.nM k3 fun _ _ z => by rw [k6] at z; cases z) (fun z => ?_) (fun z => ?_), k4, k5, k6⟩
    · obtain ⟨og, es, k, e, d, _⟩ := t.glob
      rw [z, e] at k3
      cases k3
      rw [k6] at d
      cases d
    · rw [z, t.tab p hp] at k3
      cases k3
      cases k6
    · rw [k6] at z
      cases z
    · rw [k6] at z
      cases z
theorem Told.env0 (t : Told P w K mg mb s a vs ns cs om) : Env0 P w K mg (hidT s.heap t.hp) callerA [] s t.hp where
  frames := rfl
  mod := t.mod
  bs := fun b o e => of_hidT e
  bsz := Nat.le_of_eq (hidT_size _ _)
  funs := trivial
  frf := fun b h => nomatch (show b ∈ ([] : List Addr) from h)
  hok := t.hok
  bare := .of_eq t.gens
theorem Told.noL (t : Told P w K mg mb s a vs ns cs om) (ys : List V) : t.hp a ≠ some (.lst ys) := fun e => by
  rcases seen_some e with ⟨h, _⟩ | ⟨_, h, _⟩ | ⟨_, _, _, h⟩
  · exact t.aT h
  · exact t.aM h
  · cases h
theorem Told.sql (t : Told P w K mg mb s a vs ns cs om) : SqL K t.hp a (ns.map V.int) := by
  cases hk : K.lookup a with
  | none => exact .inl (.inr ⟨_, seen_script t.aT t.aM (by rw [hk] <;> rfl)⟩)
  | some ob =>
    have e := (t.kin a ob hk).symm.trans t.script
    cases e
    refine .inr ⟨_, vs.toArray, 0, hk, rfl, rfl, rfl, ?_, by simpa using vals_ints t.are⟩
    rw [List.size_toArray, t.are.length]
    exact t.line
/-- at the end all is as it was, but for the tables -/
theorem Told.old (t : Told P w K mg mb s a vs ns cs om) {H' : Hp} {s' : Shared} (un : Un (frs []) [] t.hp H' s.heap s'.heap) (hok' : HOk P w H' s'.heap) : OldK s.heap s'.heap := by
  have nil : ∀ b : Addr, b ∉ frs ([] : List PySem.Env) := fun b z => nomatch (show b ∈ ([] : List Addr) from z)
  have stay : ∀ b o, b ∉ t.ts → s.heap.get? b = some o → s'.heap.get? b = some o := fun b o n e => by
    cases q : t.hp b with
    | none => exact un.keep b o e q (nil b) List.not_mem_nil
    | some u =>
      rcases seen_some q with ⟨z, _⟩ | ⟨_, h1, h2⟩ | ⟨_, h1, _, h2⟩
      · exact absurd z n
      · subst h1 h2
        have f := (hok' _ _ (un.frzs _ _ _ q)).1
        rw [t.mods] at e
        cases e
        exact f
      · subst h1 h2
        have f := (hok' b _ (un.frzs b _ _ q)).1
        rw [t.script] at e
        cases e
        exact f
  have grow : ∀ b, b ∈ t.ts → ∃ m : Array Value, s'.heap.get? b = some { cls := .none, data := .fields m } := fun b h => by
    obtain ⟨m, q⟩ := un.tbls b #[] (seen_tab h)
    exact ⟨_, hok' b _ q⟩
  refine ⟨fun b o e => ?_, fun b o e => ?_⟩
  · by_cases h : b ∈ t.ts
    · obtain ⟨m, q⟩ := grow b h
      obtain ⟨p, p1, p2⟩ := List.mem_map.mp h
      subst p2
      have e2 := (t.tab p p1).symm.trans e
      cases e2
      refine .inr (.inl ⟨((t.code p p1).tab (t.tab p p1)).isCodeTable, rfl, #[], m, rfl, ?_⟩)
      rw [Array.empty_append]
      exact q
    · exact .inl (stay b o h e)
  · by_cases h : b ∈ t.ts
    · obtain ⟨m, q⟩ := grow b h
      exact ⟨_, q⟩
    · exact ⟨o, stay b o h e⟩
theorem Told.law {gd : Bool} {k : Nat} {fa : Addr} {fd : FuncData} {x : Str} {sp : Sp} (t : Told P w K mg mb s a vs ns cs om) (hr : Room k callerA)
    (F : ∀ base : Heap, K.In base → base.Ns mainGlobals mg → (∀ p ∈ cs, LamX.TabB base mg p.1 p.2) → FnA gd P w K mg base (L2.CX P w) k fa fd [x] sp) (hb : ∀ (s : Shared) (u : Value), BindsTo s fd ⟨[u], []⟩ [(x, u)])
    (hsp : ∀ H : Hp, (∃ o u, H sysModules = some (.frz o u)) → (∀ p ∈ cs, H p.2 = some (.tbl #[])) → SqL K H a (ns.map V.int) → (∀ ys, H a ≠ some (.lst ys)) → sp [.ref a] H (fun v _ => v = .bl true) fun _ _ _ => False) :
    codeAny (model P w) callerA (.call (.ref fa) ⟨[.ref a], []⟩) (fun r s' => r = .ok (.ret (.bool true)) ∧ OldK s.heap s'.heap ∧ s'.os = s.os ∧ AllBare s'.gens) s := by
  have f := F _ t.kb (t.nsp t.glob (by decide)) fun p hp => t.tabB hp
  have run := f.run callerA [] s t.hp ⟨[.ref a], []⟩ [.ref a] [.ref a] (fun v _ => v = .bl true) (fun _ _ _ => False) hr (fun _ => rfl) t.env0 (hb s (.ref a)) (.cons rfl .nil) (hsp t.hp ⟨_, _, seen_mods t.mT⟩ (fun p hp => seen_tab (t.mem hp)) t.sql t.noL)
  refine codeAny_mono run fun res s2 fin => ?_
  cases res with
  | error e =>
    obtain ⟨_, _, _, _, _, _, _, _, _, _, _, _, _, _, _, _, z⟩ := fin
  | ok fl =>
    cases fl with
    | ret u =>
      obtain ⟨v, H', o1, o2, un, hk, rv, q⟩ := fin
      cases (show v = .bl true from q)
      cases (show u = Value.bool true from rv)
      exact ⟨rfl, t.old un hk, o1, o2⟩
    | next => exact (show False from fin).elim
    | brk => exact (show False from fin).elim
    | cont => exact (show False from fin).elim
end
/-- what is to be shown of a law's def at the head's heap -/
structure LawIs (l : PySem.W.OpenLaw) (w : World) (K : PySem.W.Frag) (k n : Nat) (x : Str) (mg : Str → Option Value) (fa : Addr) (h : Heap) : Prop where
  ex : ∃ (gd : Bool) (fd : FuncData) (cs : List (Addr × Addr)) (sp : Sp), (∀ p ∈ cs, h.get? p.2 = some { cls := .none, data := .fields #[] } ∧ K.lookup p.2 = none ∧ PySem.W.CodeHd h p.1 p.2) ∧ (∀ (s : Shared) (u : Value), BindsTo s fd ⟨[u], []⟩ [(x, u)]) ∧
    K.lookup sysModules = none ∧ (∃ o es n, h.get? sysModules = some o ∧ o.data = .dict es n) ∧ (∀ (H : Hp) (a : Addr) (ns : List Int), (∃ o u, H sysModules = some (.frz o u)) → ns.length ≤ n → (∀ z ∈ ns, Builtin.Int.intBits z ≤ 1048576) → (∀ p ∈ cs, H p.2 = some (.tbl #[])) → SqL K H a (ns.map V.int) → (∀ ys, H a ≠ some (.lst ys)) → sp [.ref a] H (fun v _ => v = .bl true) fun _ _ _ => False) ∧
    ∀ base : Heap, K.In base → base.Ns mainGlobals mg → (∀ p ∈ cs, LamX.TabB base mg p.1 p.2) → FnA gd l.prog w K mg base (L2.CX l.prog w) k fa fd [x] sp
theorem law_walk {l : PySem.W.OpenLaw} {n k : Nat} {q : Program} {loose : List Str} {XP : (Str → Option Value) → Heap → Prop} {YP : World → Heap → Prop} {d : DefRec} {x : Str} (hn : l.most = some n) (hn2 : n ≤ sizeLine) (hdf : d.params.defaults = []) (hr : Room k callerA)
    (F : ∀ (w : World) (mg : Str → Option Value) (fa : Addr) (h : Heap), YP w h → h.Ns mainGlobals mg → mg d.name = some (.ref fa) → ∃ K : PySem.W.Frag, K.In h ∧ LawIs l w K k n x mg fa h) :
    PySem.W.WalkO q loose XP YP l.row.toRowW d [] (fun f vs => PySem.call f vs) := by
  refine Att.attach_callB hn hdf ?_
  intro w s0 s mg mb fa o pm cd doc a vs ns G Y _ _ _ hmg hs hi hlen hbits hg
  obtain ⟨K, kin, ⟨gd, fd, cs, sp, hcs, hb, mK, ⟨om, mes, mn, m1, m2⟩, hsp, hF⟩⟩ := F w mg fa s.heap Y G.T.g hmg
  have t : Told l.prog w K mg mb s a vs ns cs om := ⟨kin, G.T.g, G.T.b, G.T.builtins, G.T.nolimit, hg, fun p h => (hcs p h).1, fun p h => (hcs p h).2.1, fun p h => (hcs p h).2.2, G.T.bmain, hs, hi, Nat.le_trans hlen hn2, m1, ⟨mes, mn, m2⟩, mK⟩
  exact t.law hr hF hb fun H hM hH hS hA => hsp H a ns hM hlen hbits hH hS hA

/-! ### the head's hook, sys.modules told too -/
def modsB (g : Addr → Option Obj) : Bool := match g sysModules with
  | some o => (match o.data with
    | .dict _ _ => true
    | _ => false)
  | none => false
theorem modsB_ok {g : Addr → Option Obj} (h : modsB g = true) : ∃ o es n, g sysModules = some o ∧ o.data = .dict es n := by
  unfold modsB at h
  split at h
  · rename_i o e
    split at h
    · rename_i es n d
      exact ⟨o, es, n, e, d⟩
    · cases h
  · cases h
def hookM (k : PySem.W.Hook) : PySem.W.Hook where
  α := k.α × Bool
  obs := fun s => (k.obs s, modsB s.heap.get?)
  val := fun w => (k.val w, true)
  says := fun w h => k.says w h ∧ ∃ o es n, h.get? sysModules = some o ∧ o.data = .dict es n
  of := fun w h e => ⟨k.of w h (congrArg Prod.fst e), modsB_ok (congrArg Prod.snd e)⟩
  keeps := fun w h h' c q => ⟨k.keeps w h h' c.1 q, let ⟨o, es, n, e, d⟩ := c.2; ⟨o, es, n, q _ _ e, d⟩⟩
end Pu
end

section
set_option maxHeartbeats 2000000
namespace Pu
open PySem PySem.Spec PyProof.Rows L2

/-! ### repr -/
def kPy : Key → PyData
  | .inl i => .int i
  | .inr x => .str x
mutual
def D.pr : D → PyData
  | .non => .none
  | .bl b => .bool b
  | .int i => .int i
  | .str x => .str x
  | .tup xs => .tuple (D.prs xs)
  | .lst xs => .list (D.prs xs)
  | .dct ks => .dict (D.prk ks)
  | .obj _ _ => .none
  | .pen => .none
  | .fn _ => .none
  | .ty _ => .none
  | .exc _ _ => .none
  | .scr _ => .none
  | .clo => .none
  | .lam _ => .none
def D.prs : List D → List PyData
  | [] => []
  | x :: xs => x.pr :: D.prs xs
def D.prk : List (Key × D) → List (PyData × PyData)
  | [] => []
  | (k, x) :: xs => (kPy k, x.pr) :: D.prk xs
end
mutual
def D.okP : D → Bool
  | .tup xs => D.okPs xs
  | .lst xs => D.okPs xs
  | .dct ks => D.okPk ks
  | .obj _ _ => false
  | .pen => false
  | .fn _ => false
  | .ty _ => false
  | .exc _ _ => false
  | .scr _ => false
  | .clo => false
  | .lam _ => false
  | .non => true
  | .bl _ => true
  | .int _ => true
  | .str _ => true
def D.okPs : List D → Bool
  | [] => true
  | x :: xs => x.okP && D.okPs xs
def D.okPk : List (Key × D) → Bool
  | [] => true
  | (_, x) :: xs => x.okP && D.okPk xs
end
theorem reads_key {h : Heap} {k : Key} {u : Value} (e : keyIs k u = true) : Reads h u (kPy k) [] := by
  rcases keyIs_shape e with ⟨i, t, rfl, rfl⟩ | ⟨x, t, rfl, rfl⟩
  · exact .int i t
  · exact .str x t
section
variable {X : Cx} {C : Ctx} {pins : List (Addr × Obj)} {σ : St} {G H : Hp} {s : Shared}
mutual
theorem Rep.rd (I : Inv X pins σ H s) (S : Sub G H) (hm : ∃ o u, H sysModules = some (.frz o u)) : ∀ {v : V} {d : D} {u : Value}, Rep C G v d → d.okP = true → RelV v u → ∃ as, Reads s.heap u d.pr as ∧ sysModules ∉ as
  | _, _, _, .non, _, r => by
    cases r
    simp only [D.pr]
    exact ⟨_, .none, List.not_mem_nil⟩
  | _, _, _, .bl b, _, r => by
    cases r
    simp only [D.pr]
    exact ⟨_, .bool b, List.not_mem_nil⟩
  | _, _, _, .int i, _, r => by
    obtain ⟨t, rfl⟩ := r
    simp only [D.pr]
    exact ⟨_, .int i t, List.not_mem_nil⟩
  | _, _, _, .str x, _, r => by
    obtain ⟨t, rfl⟩ := r
    simp only [D.pr]
    exact ⟨_, .str x t, List.not_mem_nil⟩
  | _, _, _, .tup h q, c, r => by
    simp only [D.okP] at c
    cases r
    obtain ⟨z, us, rv, ⟨o, ho, hc, n, hd⟩⟩ := I.hok _ _ (S _ _ h)
    obtain ⟨as, k1, k2⟩ := Reps.rd I S hm q c rv
    simp only [D.pr]
    exact ⟨as, .tuple ho hc hd k1, k2⟩
  | _, _, _, .lst h q, c, r => by
    simp only [D.okP] at c
    cases r
    obtain ⟨z, us, n, rv, ho⟩ := I.hok _ _ (S _ _ h)
    obtain ⟨as, k1, k2⟩ := Reps.rd I S hm q c rv
    simp only [D.pr]
    refine ⟨_, .list ho rfl rfl k1, fun m => ?_⟩
    rcases List.mem_cons.mp m with m | m
    · obtain ⟨o, u, e⟩ := hm
      rw [m, S _ _ h] at e
      cases e
    · exact k2 m
  | _, _, _, .dct h q, c, r => by
    simp only [D.okP] at c
    cases r
    obtain ⟨z, hd, vs, rel, o, es, ep, ho, hx, hda, hk, hp, nd⟩ := dk_of I.hok (S _ _ h)
    obtain ⟨as, k1, k2, k3⟩ := RepK.rd I S hm q c rel hp
    simp only [D.pr]
    refine ⟨_, .dict ho hx.1 hda k1 k2, fun m => ?_⟩
    rcases List.mem_append.mp m with m | m
    · rcases List.mem_cons.mp m with m | m
      · rw [← m] at hd
        cases hd
      · cases m
    · exact k3 m
  | _, _, _, .obj _ _ _, c, _ => by simp [D.okP] at c
  | _, _, _, .pen _, c, _ => by simp [D.okP] at c
  | _, _, _, .fn _, c, _ => by simp [D.okP] at c
  | _, _, _, .ty _, c, _ => by simp [D.okP] at c
  | _, _, _, .scr _, c, _ => by simp [D.okP] at c
  | _, _, _, .clo _ _, c, _ => by simp [D.okP] at c
  | _, _, _, .lam _ _ _, c, _ => by simp [D.okP] at c
  | _, _, _, .exc0 _ _, c, _ => by simp [D.okP] at c
  | _, _, _, .exc1 _ _ _ _, c, _ => by simp [D.okP] at c
theorem Reps.rd (I : Inv X pins σ H s) (S : Sub G H) (hm : ∃ o u, H sysModules = some (.frz o u)) : ∀ {vs : List V} {ds : List D} {us : List Value}, Reps C G vs ds → D.okPs ds = true → Vals vs us → ∃ as, ReadsAll s.heap us (D.prs ds) as ∧ sysModules ∉ as
  | _, _, _, .nil, _, .nil => by
    simp only [D.prs]
    exact ⟨_, .nil, List.not_mem_nil⟩
  | _, _, _, .cons h t, c, .cons r rr => by
    simp only [D.okPs, Bool.and_eq_true] at c
    obtain ⟨as, k1, k2⟩ := Rep.rd I S hm h c.1 r
    obtain ⟨bs, j1, j2⟩ := Reps.rd I S hm t c.2 rr
    simp only [D.prs]
    exact ⟨_, .cons k1 j1, fun m => (List.mem_append.mp m).elim k2 j2⟩
theorem RepK.rd (I : Inv X pins σ H s) (S : Sub G H) (hm : ∃ o u, H sysModules = some (.frz o u)) : ∀ {vs : List (Key × V)} {ds : List (Key × D)} {us : List (Key × Value)} {es : List DictEntry}, RepK C G vs ds → D.okPk ds = true → KV vs us → Pairs (mixKind X.prog X.w) es us →
    ∃ as, ReadsAll s.heap (es.map (·.key)) ((D.prk ds).map (·.1)) [] ∧ ReadsAll s.heap (es.map (·.val)) ((D.prk ds).map (·.2)) as ∧ sysModules ∉ as
  | _, _, _, _, .nil, _, .nil, .nil => by
    simp only [D.prk]
    exact ⟨_, .nil, .nil, List.not_mem_nil⟩
  | _, _, _, _, .cons h t, c, .cons r rr, .cons e1 e2 e3 => by
    simp only [D.okPk, Bool.and_eq_true] at c
    obtain ⟨r1, r2⟩ := r
    rw [← e2] at r2
    obtain ⟨as, k1, k2⟩ := Rep.rd I S hm h c.1 r2
    obtain ⟨bs, j1, j2, j3⟩ := RepK.rd I S hm t c.2 rr e3
    simp only [D.prk, List.map_cons]
    refine ⟨_, ReadsAll.cons (as := []) (bs := []) (reads_key ((congrArg (fun k : Key => keyIs k _) r1).trans e1)) j1, .cons k1 j2, fun m => (List.mem_append.mp m).elim k2 j3⟩
end
end
/-- what repr can show, and how -/
def kRepr : List D → Option D
  | [d] => if d.okP = true ∧ d.pr.showable = true ∧ d.pr.shown.length ≤ sizeLine ∧ d.pr.depth < 60 then some (.str d.pr.shown) else none
  | _ => none
def rRepr (C : Ctx) : List V → Hp → VK → Prop := fun vs H Q => ∃ G v d, vs = [v] ∧ Sub G H ∧ (∃ o u, H sysModules = some (.frz o u)) ∧ Rep C G v d ∧ d.okP = true ∧ d.pr.showable = true ∧ d.pr.shown.length ≤ sizeLine ∧ d.pr.depth < 60 ∧ Q (.str d.pr.shown) H
theorem call_repr {X : Cx} {C : Ctx} (hu : X.A.units + 64 < cLine) (hg : X.A.guards = some []) : CallR X (.builtin "repr") (rRepr C) := by
  intro pins s σ H xs us Q I r h
  obtain ⟨G, v, d, rfl, S, hm, rep, ok, hs, hl, hd, q⟩ := h
  obtain ⟨u, rfl, ru⟩ := r.one
  obtain ⟨as, rds, nm⟩ := rep.rd I S hm ok ru
  have fin : ∀ (h' : Heap) (t : Tok) (tk : Nat), (∀ b o, s.heap.get? b = some o → h'.get? b = some o) → EP X pins σ Q (.str d.pr.shown t) { s with heap := h', toks := tk } := fun h' t tk k => ⟨.str _, H, I.kept k, ⟨t, rfl⟩, q⟩
  have fin0 : ∀ (y : Str) (t : Tok) (tk : Nat), y = d.pr.shown → EP X pins σ Q (.str y t) { s with toks := tk } := fun y t tk e => by
    rw [e]
    exact fin s.heap t tk fun _ _ e => e
  have onRef : ∀ {a : Addr}, Reads s.heap (.ref a) d.pr as → wpAny (model X.prog X.w) X.A (call (.builtin "repr") [.ref a]) (EP X pins σ Q) X.xe s := fun {a} rd =>
    repr_of_reads' rd hs (fun _ => nm) hg (by omega) (fun _ _ e => e) (fun h' t tk k => fin h' t tk k) hl
  cases rep with
  | non =>
    cases ru
    exact PySem.P.repr_of_none (fin0 _ _ _ (by simp only [D.pr, PyData.shown]))
  | bl b =>
    cases ru
    exact PySem.P.repr_of_bool (fin0 _ _ _ (by simp only [D.pr, PyData.shown]))
  | int i =>
    obtain ⟨t, rfl⟩ := ru
    simp only [D.pr, PyData.showable, decide_eq_true_eq] at hs
    exact PySem.P.repr_of_int hs (fin0 _ _ _ (by simp only [D.pr, PyData.shown]))
  | str x =>
    obtain ⟨t, rfl⟩ := ru
    exact PySem.P.repr_of_str (fin0 _ _ _ (by simp only [D.pr, PyData.shown])) (by simpa only [D.pr, PyData.shown] using hl)
  | tup h q =>
    cases ru
    exact onRef rds
  | lst h q =>
    cases ru
    exact onRef rds
  | dct h q =>
    cases ru
    exact onRef rds
  | obj _ _ _ => simp [D.okP] at ok
  | pen _ => simp [D.okP] at ok
  | fn _ => simp [D.okP] at ok
  | ty _ => simp [D.okP] at ok
  | clo _ _ => simp [D.okP] at ok
  | lam _ _ _ => simp [D.okP] at ok
  | exc0 _ _ => simp [D.okP] at ok
  | scr _ => simp [D.okP] at ok
  | exc1 _ _ _ _ => simp [D.okP] at ok
theorem ok_repr {C : Ctx} : CallOk C (rRepr C) kRepr := by
  intro G H σ env p vs ds z Q L r ek q
  unfold kRepr at ek
  split at ek
  · rename_i d
    split at ek
    · rename_i c
      cases ek
      obtain ⟨v, rfl, rv⟩ := r.one
      exact ⟨_, v, d, rfl, L.frz_sub, L.tab.sm, rv.frz L, c.1, c.2.1, c.2.2.1, c.2.2.2, q _ G H (Alc.refl L.sub) (.str _)⟩
    · cases ek
  · cases ek
section
variable {X : Cx} {C : Ctx} {W : WX} {e : Expr} {a : AM} {pos p : Pos} {k : Nat}
/-- repr(e) -/
theorem pm_repr (hu : X.A.units + 64 < cLine) (hgd : X.A.guards = some []) (hm : X.mg "repr" = none) (ha : PA X [e] (rAB C W a)) (hg : Gl X "repr" := by rfl)
    (he : starEach [e] X.env = (false, eval e X.env) :: starEach [] X.env := by rfl) (hpl : (backTo pos (starEach [] X.env)).any (·.1) = false := by rfl) : PE X (.Call (.Name "repr" p) [e] [] pos) (rE C W (mCall kRepr a)) :=
  pm_cb ok_repr (call_repr hu hgd) hm (by with_unfolding_all rfl) ha hg (by decide) (by decide) he hpl
end
end Pu
end

section
set_option maxHeartbeats 2000000
namespace Pu
open PySem PySem.Spec PyProof.Rows L2

/-! ### exceptions: made, raised -/
/-- what is looked up of a class with an own __init__ behind ValueError -/
def oexB (K : PySem.W.Frag) (C : Addr) : Bool := (match K.lookup C with
  | some ⟨.type "type", _, .cls cd, sl⟩ => (match cd.mro, sl.toList with
    | .ref C' :: bm, [_, _, _, _, some (.builtin n), _] => C' == C && (n == "ValueError.__new__" && (!cd.hasDel && (cd.hasDict && PySem.HandSPX.refsVE bm)))
    | _, _ => false)
  | _ => false) && (He.eqO (PySem.W.findIn K (.ref C) "__setattr__") (some (some (.builtin "object.__setattr__"))) && (decide (PySem.W.subIn K (.ref C) (.type "BaseException") = some true) && (decide (PySem.W.typeIn K (.ref C) = some (.type "type")) && PySem.W.keepIn K (.ref C))))
theorem oexB_ok {K : PySem.W.Frag} {C : Addr} (h : oexB K C = true) : OexC K C := by
  unfold oexB at h
  rw [Bool.and_eq_true, Bool.and_eq_true, Bool.and_eq_true, Bool.and_eq_true, decide_eq_true_eq, decide_eq_true_eq] at h
  obtain ⟨h1, h2, h3, h4, h5⟩ := h
  refine ⟨?_, He.eqO_ok h2, h3, h4, h5⟩
  split at h1
  · rename_i dd cd sl ho
    split at h1
    · rename_i C' bm k0 k1 k2 k3 n k5 hm hs
      rw [Bool.and_eq_true, Bool.and_eq_true, Bool.and_eq_true, Bool.and_eq_true, beq_iff_eq, beq_iff_eq, Bool.not_eq_true'] at h1
      obtain ⟨e1, e2, e3, e4, e5⟩ := h1
      obtain ⟨nm, bs, mro, ns, qn, hd, sn, sub, ab, col, del⟩ := cd
      obtain ⟨l⟩ := sl
      simp only at hm hs e3 e4
      subst hm hs e1 e2 e3 e4
      exact ⟨nm, qn, ns, bs, bm, sn, sub, ab, col, dd, k0, k1, k2, k3, k5, ho, e5⟩
    · cases h1
  · cases h1
/-- an own __init__ that keeps its arguments as fields ns -/
def spI (K : PySem.W.Frag) (cA : Addr) (ns : List Str) : Sp := fun vs H Q _ => ∃ a ws, vs = .ref a :: ws ∧ ws.length = ns.length ∧ OexC K cA ∧ (∀ f ∈ ns, PySem.W.findIn K (.ref cA) f = some none) ∧ H a = some (exo a cA none) ∧
  ∀ dx, H dx = none → dx ≠ a → Q .non (upd (upd H dx (exd dx (ns.zip ws).reverse)) a (exo a cA (some dx)))
theorem spI_len {K : PySem.W.Frag} {cA : Addr} {ns : List Str} {vs : List V} {H : Hp} {Q : VK} {E : XK} (h : spI K cA ns vs H Q E) : vs.length = ("self" :: ns : List Str).length := by
  obtain ⟨a, ws, rfl, h, _⟩ := h
  rw [List.length_cons, List.length_cons, h]
def tI1 (K : PySem.W.Frag) (f : Str) (i : Nat) : TS := tOst K f (tVar 0) (tVar i)
theorem upd2 {H : Hp} {dx a : Addr} {e1 e2 x : HO} (n : dx ≠ a) : upd (upd (upd H dx e1) a x) dx e2 = upd (upd H dx e2) a x := by
  funext b
  by_cases h1 : b = dx
  · subst h1
    rw [upd_same, upd_ne n, upd_same]
  · rw [upd_ne h1]
    by_cases h2 : b = a
    · subst h2
      rw [upd_same, upd_same]
    · rw [upd_ne h2, upd_ne h2, upd_ne h1, upd_ne h1]
theorem init1 {K : PySem.W.Frag} {cA : Addr} {N : List Str} {f1 : Str} {vs : List V} {H : Hp} {Q : VK} {E : XK} (h : spI K cA [f1] vs H Q E) : tI1 K f1 1 { nx := fun _ H' => Q .non H', rt := Q } (L2.start N vs) H := by
  obtain ⟨a, ws, rfl, hl, T, hf, ha, hq⟩ := h
  match ws, hl with
  | [y1], _ =>
    exact ⟨y1, rfl, .ref a, rfl, a, cA, rfl, T, hf f1 (by simp), .inl ⟨ha, fun dx h1 h2 => hq dx h1 h2⟩⟩
theorem init2 {K : PySem.W.Frag} {cA : Addr} {N : List Str} {f1 f2 : Str} {vs : List V} {H : Hp} {Q : VK} {E : XK} (h : spI K cA [f1, f2] vs H Q E) : tSeq (tI1 K f1 1) (tI1 K f2 2) { nx := fun _ H' => Q .non H', rt := Q } (L2.start N vs) H := by
  obtain ⟨a, ws, rfl, hl, T, hf, ha, hq⟩ := h
  match ws, hl with
  | [y1, y2], _ =>
    refine ⟨y1, rfl, .ref a, rfl, a, cA, rfl, T, hf f1 (by simp), .inl ⟨ha, fun dx h1 h2 => ?_⟩⟩
    refine ⟨y2, rfl, .ref a, rfl, a, cA, rfl, T, hf f2 (by simp), .inr ⟨dx, [(f1, y1)], upd_same, (upd_ne h2).trans upd_same, by simp, ?_⟩⟩
    show Q .non _
    rw [upd2 h2]
    exact hq dx h1 h2
theorem init3 {K : PySem.W.Frag} {cA : Addr} {N : List Str} {f1 f2 f3 : Str} {vs : List V} {H : Hp} {Q : VK} {E : XK} (h : spI K cA [f1, f2, f3] vs H Q E) : tSeq (tI1 K f1 1) (tSeq (tI1 K f2 2) (tI1 K f3 3)) { nx := fun _ H' => Q .non H', rt := Q } (L2.start N vs) H := by
  obtain ⟨a, ws, rfl, hl, T, hf, ha, hq⟩ := h
  match ws, hl with
  | [y1, y2, y3], _ =>
    refine ⟨y1, rfl, .ref a, rfl, a, cA, rfl, T, hf f1 (by simp), .inl ⟨ha, fun dx h1 h2 => ?_⟩⟩
    refine ⟨y2, rfl, .ref a, rfl, a, cA, rfl, T, hf f2 (by simp), .inr ⟨dx, [(f1, y1)], upd_same, (upd_ne h2).trans upd_same, by simp, ?_⟩⟩
    refine ⟨y3, rfl, .ref a, rfl, a, cA, rfl, T, hf f3 (by simp), .inr ⟨dx, [(f2, y2), (f1, y1)], ?_, ?_, by simp, ?_⟩⟩
    · rw [upd2 h2]
      exact upd_same
    · rw [upd2 h2, upd_ne h2]
      exact upd_same
    · show Q .non _
      rw [upd2 h2, upd2 h2]
      exact hq dx h1 h2
/-- a class of exceptions with an own __init__ -/
structure ExcD (C : Ctx) (P : Program) (w : World) (base : Heap) (x : Str) (ns : List Str) (k : Nat) : Prop where
  ex : ∃ (cA fI : Addr) (fd : FuncData), C.mg x = some (.ref cA) ∧ OexC C.K cA ∧ (∀ f ∈ ns, PySem.W.findIn C.K (.ref cA) f = some none) ∧ PySem.W.findIn C.K (.ref cA) "__init__" = some (some (.ref fI)) ∧ PySem.W.typeIn C.K (.ref fI) = some (.type "function") ∧
    Binds C.K fd ("self" :: ns) [] ∧ FnOk P w C.K C.mg base CX0 k fI fd ("self" :: ns) (spI C.K cA ns)
/-- one without -/
structure ExcN (C : Ctx) (x : Str) : Prop where
  ex : ∃ cA : Addr, C.mg x = some (.ref cA) ∧ PySem.W.excIn C.K cA He.veBase "ValueError.__new__" = true ∧ PySem.W.keepIn C.K (.ref cA) = true ∧ PySem.W.subIn C.K (.ref cA) (.type "BaseException") = some true ∧ PySem.W.typeIn C.K (.ref cA) = some (.type "type")
def mRaise (x : Str) (ns : List Str) (a : AM) : SM := fun env p => (a env p).res env fun ds q => if ds.length = ns.length then .err ⟨x, (ns.zip ds).reverse⟩ env q else .bad
def mRaise0 (x : Str) : SM := fun env p => .err ⟨x, []⟩ env p
theorem RepF.append {C : Ctx} {G : Hp} : ∀ {vs ws : List (Str × V)} {ds es : List (Str × D)}, RepF C G vs ds → RepF C G ws es → RepF C G (vs ++ ws) (ds ++ es)
  | _, _, _, _, .nil, s => s
  | _, _, _, _, .cons h t, s => .cons h (RepF.append t s)
theorem RepF.rev {C : Ctx} {G : Hp} : ∀ {vs : List (Str × V)} {ds : List (Str × D)}, RepF C G vs ds → RepF C G vs.reverse ds.reverse
  | _, _, .nil => .nil
  | _, _, .cons h t => by
    rw [List.reverse_cons, List.reverse_cons]
    exact (RepF.rev t).append (.cons h .nil)
theorem RepF.zip {C : Ctx} {G : Hp} : ∀ {ns : List Str} {vs : List V} {ds : List D}, Reps C G vs ds → RepF C G (ns.zip vs) (ns.zip ds)
  | [], _, _, _ => .nil
  | _ :: _, _, _, .nil => .nil
  | _ :: _, _, _, .cons h t => .cons h (RepF.zip t)
theorem del_upd {H : Hp} {a dx : Addr} {x y z : HO} (h : H a = none) (n : dx ≠ a) : upd (del (upd (upd (upd H a x) dx y) a z) a) dx (.xd fs) = upd H dx (.xd fs) := by
  funext b
  by_cases h1 : b = dx
  · subst h1
    rw [upd_same, upd_same]
  · rw [upd_ne h1, upd_ne h1]
    by_cases h2 : b = a
    · subst h2
      rw [del_same, h]
    · rw [del_ne h2, upd_ne h2, upd_ne h1, upd_ne h2]
section
variable {X : Cx} {C : Ctx} {W : WX} {gd : Bool} {k j : Nat} {x : Str} {ns : List Str} {e : Expr} {es : List Expr} {a : AM} {p pos pos' : Pos}
/-- raise X(e, ..) -/
theorem sm_raise (w : Wk X C W gd j) (hc : X.calm = true) (F : ExcD C X.prog X.w X.base x ns k) (hk : k + 1 ≤ j) (ha : PA X (e :: es) (rA C W a)) (hg : Gl X x := by rfl) (hn : ns.length ≤ 900 := by decide)
    (hdb : (x == ("__debug__" : Str)) = false := by decide) (he : starEach (e :: es) X.env = (false, eval e X.env) :: starEach es X.env := by rfl) (hpl : (backTo pos (starEach es X.env)).any (·.1) = false := by rfl) :
    PS X (.Raise (some (.Call (.Name x p) (e :: es) [] pos)) none pos') (rS C W (mRaise x ns a)) := by
  obtain ⟨cA, fI, fd, h1, h2, h3, h4, h5, h6, h7⟩ := F.ex
  rw [w.K] at h2 h3 h4 h5 h6 h7
  rw [w.mg] at h1 h7
  refine (ps_raise hc w.tk (pmk_oex h2 h4 h5 h7 (w.room.mono hk) h6 .nil pass0 hg h1 ha hdb he hpl)).of fun D σ H ⟨G0, H0, G, env, q, S, o⟩ => ?_
  refine ⟨G, env, q, S.l, (o.out S).imp (fun ds q1 z vs G1 H1 x1 y1 r1 => ?_) fun _ _ z => z⟩
  split at z
  · rename_i hl
    have lv : vs.length = ns.length := by rw [r1.length, hl]
    have S1 := S.step x1 y1
    refine ⟨by omega, fun b hb => ⟨b, vs, by rw [List.append_nil], lv, h2, h3, upd_same, fun dx d1 d2 => ⟨rfl, dx, (ns.zip vs).reverse, upd_same, (upd_ne d2).trans upd_same, ?_, ?_⟩⟩⟩
    · rw [upd_ne d2] at d1
      exact d1
    · have d3 : H1 dx = none := by
        rw [upd_ne d2] at d1
        exact d1
      rw [del_upd hb d2]
      have al : Alc G1 H1 (upd G1 dx (.xd (ns.zip vs).reverse)) (upd H1 dx (.xd (ns.zip vs).reverse)) := Alc.put x1.sub d3
      exact z _ _ _ _ _ (S1.step (S1.l.ext al) (y1.alc al)) (x1.gro.trans al.gro) ⟨cA, by rw [w.mg]; exact h1, rfl, .inr ⟨dx, _, rfl, upd_same, (RepF.zip (r1.mono al.gro)).rev⟩⟩
  · exact z.elim
/-- X(), X without own __init__ -/
theorem pmk_own0 {cA : Addr} (q : PySem.W.excIn X.K cA He.veBase "ValueError.__new__" = true) (gC : X.mg x = some (.ref cA)) (kC : PySem.W.keepIn X.K (.ref cA) = true) (r : Raises X (.ref cA)) (hg : Gl X x) (hdb : (x == ("__debug__" : Str)) = false := by decide) :
    L2.PMk X (.Call (.Name x p) [] [] pos) (fun _ H Q => Q (.ref cA) none H) := by
  intro pins s σ H Q I h
  refine wpAny_Call_Name_kw (ld_glob I hg gC ?_ hdb)
  refine PySem.W.callWith_K0 I.kIn kC ?_
  obtain ⟨bm, N, nm, qn, bs, hdct, sn, sub, ab, col, dd, k0, k1, k2, k3, k5, mN, hC, hN, hni, T⟩ := exc_obj I.kIn q
  refine wpAny_call_exc_subT F.excBase_ValueError T hC hN hni (fun h' e hm => ?_) (Nat.zero_le _)
  exact mk_of I hm r h (I.hok.gone hm.new)
/-- raise X() -/
theorem sm_raise0 (w : Wk X C W gd j) (hc : X.calm = true) (F : ExcN C x) (hg : Gl X x := by rfl) (hdb : (x == ("__debug__" : Str)) = false := by decide) : PS X (.Raise (some (.Call (.Name x p) [] [] pos)) none pos') (rS C W (mRaise0 x)) := by
  obtain ⟨cA, h1, h2, h3, h4, h5⟩ := F.ex
  rw [w.K] at h2 h3 h4 h5
  rw [w.mg] at h1
  refine (ps_raise hc w.tk (pmk_own0 h2 h1 h3 (raises_own h4 h5) hg hdb)).of fun D σ H ⟨G0, H0, G, env, q, S, o⟩ => ?_
  exact o _ _ σ G H S (Sub.refl _) ⟨cA, by rw [w.mg]; exact h1, rfl, .inl ⟨rfl, rfl⟩⟩
end
end Pu
end

section
set_option maxHeartbeats 2000000
namespace Pu
open PySem PySem.Spec PyProof.Rows L2

/-! ### isinstance; fields of a caught error -/
/-- the caught error, as the context bears it -/
structure Hot (Y : Cx) (C : Ctx) : Prop where
  at_ : ∀ a cls dd, C.ex = some (a, cls, dd) → ∃ oe, (a, oe) ∈ Y.pn ∧ Zc cls dd oe ∧ ∃ vs, oe.data = .fields vs
theorem Hot.none {Y : Cx} {C : Ctx} (h : C.ex = none) : Hot Y C := ⟨fun a cls dd e => by
  rw [h] at e
  cases e⟩
/-- a value's class, by name -/
def D.tag : D → Option (Sum String Str)
  | .non => some (.inl "NoneType")
  | .bl _ => some (.inl "bool")
  | .int _ => some (.inl "int")
  | .str _ => some (.inl "str")
  | .tup _ => some (.inl "tuple")
  | .lst _ => some (.inl "list")
  | .dct _ => some (.inl "dict")
  | .obj c _ => some (.inr c)
  | .exc c _ => some (.inr c)
  | _ => none
def D.isExc : D → Bool
  | .exc _ _ => true
  | _ => false
def D.isObj : D → Bool
  | .obj _ _ => true
  | _ => false
inductive TagV (C : Ctx) : Sum String Str → Value → Prop where
  | ty (n : String) : TagV C (.inl n) (.type n)
  | own {c : Str} {cA : Addr} (h : C.mg c = some (.ref cA)) : TagV C (.inr c) (.ref cA)
inductive ClsD (C : Ctx) : D → V → Value → Prop where
  | ty (n : String) : ClsD C (.ty n) (.ty n) (.type n)
  | own {c : Str} {cA : Addr} (h : C.mg c = some (.ref cA)) : ClsD C (.fn c) (.ref cA) (.ref cA)
abbrev Ask := Sum String Str → D → Option Bool
structure AskOk (C : Ctx) (ask : Ask) : Prop where
  ok : ∀ t k b, ask t k = some b → ∀ tv, TagV C t tv → ∀ v u, ClsD C k v u → PySem.W.kitOne C.K tv u = some b
/-- what must be known of an own class whose instances are asked -/
structure InsC (K : PySem.W.Frag) (cA : Addr) : Prop where
  cls : Cls K cA
  ha : PySem.W.findIn K (.ref cA) "__class__" = some (some (.builtin "object.__class__"))
  hn : PySem.W.specialIn K (.builtin "object.__class__") "__get__" = some (some (.builtin "getset_descriptor.__get__"))
  ht : PySem.W.takesIn K (.builtin "object.__class__") = some true
  hm : PySem.W.mroIn K cA (.type "object") = some true
def insB (K : PySem.W.Frag) (cA : Addr) : Bool := He.eqO (PySem.W.findIn K (.ref cA) "__class__") (some (some (.builtin "object.__class__"))) && (He.eqO (PySem.W.specialIn K (.builtin "object.__class__") "__get__") (some (some (.builtin "getset_descriptor.__get__"))) && (decide (PySem.W.takesIn K (.builtin "object.__class__") = some true) && decide (PySem.W.mroIn K cA (.type "object") = some true)))
theorem insB_ok {K : PySem.W.Frag} {cA : Addr} (c : Cls K cA) (h : insB K cA = true) : InsC K cA := by
  unfold insB at h
  rw [Bool.and_eq_true, Bool.and_eq_true, Bool.and_eq_true, decide_eq_true_eq, decide_eq_true_eq] at h
  exact ⟨c, He.eqO_ok h.1, He.eqO_ok h.2.1, h.2.2.1, h.2.2.2⟩
/-- .. of a class of errors -/
structure ExIs (K : PySem.W.Frag) (cA : Addr) : Prop where
  cl : (PySem.W.clsIn K cA).isSome = true
  ga : PySem.W.findIn K (.ref cA) "__getattribute__" = some (some (.builtin "BaseException.__getattribute__"))
  gt : PySem.W.findIn K (.ref cA) "__getattr__" = some none
  sub : PySem.W.subIn K (.ref cA) (.type "BaseException") = some true
  hd : PySem.W.hasDictIn K cA = true
  ha : PySem.W.findIn K (.ref cA) "__class__" = some (some (.builtin "object.__class__"))
  hn : PySem.W.specialIn K (.builtin "object.__class__") "__get__" = some (some (.builtin "getset_descriptor.__get__"))
  ht : PySem.W.takesIn K (.builtin "object.__class__") = some true
  hm : PySem.W.mroIn K cA (.type "object") = some true
def exIsB (K : PySem.W.Frag) (cA : Addr) : Bool := (PySem.W.clsIn K cA).isSome && (He.eqO (PySem.W.findIn K (.ref cA) "__getattribute__") (some (some (.builtin "BaseException.__getattribute__"))) && (He.eqO (PySem.W.findIn K (.ref cA) "__getattr__") (some none) && (decide (PySem.W.subIn K (.ref cA) (.type "BaseException") = some true) && (PySem.W.hasDictIn K cA && insB K cA))))
theorem exIsB_ok {K : PySem.W.Frag} {cA : Addr} (h : exIsB K cA = true) : ExIs K cA := by
  unfold exIsB insB at h
  rw [Bool.and_eq_true, Bool.and_eq_true, Bool.and_eq_true, Bool.and_eq_true, Bool.and_eq_true, Bool.and_eq_true, Bool.and_eq_true, Bool.and_eq_true, decide_eq_true_eq, decide_eq_true_eq, decide_eq_true_eq] at h
  exact ⟨h.1, He.eqO_ok h.2.1, He.eqO_ok h.2.2.1, h.2.2.2.1, h.2.2.2.2.1, He.eqO_ok h.2.2.2.2.2.1, He.eqO_ok h.2.2.2.2.2.2.1, h.2.2.2.2.2.2.2.1, h.2.2.2.2.2.2.2.2⟩
/-- the classes of objects and of errors that the proof speaks of -/
structure Clss (C : Ctx) (os es : List Str) : Prop where
  obj : ∀ c ∈ os, ∀ cA, C.mg c = some (.ref cA) → InsC C.K cA
  exc : ∀ c ∈ es, ∀ cA, C.mg c = some (.ref cA) → ExIs C.K cA
/-- the caught error stands as such in the heap -/
theorem exc_inst {Y : Cx} {C : Ctx} {pins : List (Addr × Obj)} {σ : St} {H : Hp} {s : Shared} {a cA : Addr} {dd : Option Addr} (hot : Hot Y C) (I : Inv Y pins σ H s) (h : C.ex = some (a, .ref cA, dd)) (hd : ∀ x, dd = some x → ∃ fvs, H x = some (.xd fvs)) :
    ∃ oe od, PySem.W.InstAt s.heap a oe cA od ∧ ∀ x fvs, dd = some x → H x = some (.xd fvs) → ∃ o, od = some o ∧ ∀ f, ∃ r, PySem.W.lookIn f o = some r ∧ RelO (fvs.lookup f) r := by
  obtain ⟨oe, hp, ⟨z1, z2⟩, vs, hv⟩ := hot.at_ a _ dd h
  have P := (I.pin (a, oe) (List.mem_append_left _ hp)).1
  have nc : PySem.W.notCls oe = true := by
    unfold PySem.W.notCls
    rw [hv] <;> rfl
  cases dd with
  | none => exact ⟨oe, none, ⟨P, z1, nc, by rw [z2] <;> trivial⟩, fun x fvs e => by cases e⟩
  | some x =>
    obtain ⟨fvs, hx⟩ := hd x rfl
    obtain ⟨mA, hns, hr⟩ := (show ObjOk Y.prog Y.w H s.heap x (.xd fvs) from I.hok x _ hx)
    obtain ⟨od, ho, hl⟩ := lookIn_ns hns
    refine ⟨oe, some od, ⟨P, z1, nc, by rw [z2]; exact ho⟩, fun x' fvs' e1 e2 => ?_⟩
    cases e1
    rw [hx] at e2
    cases e2
    exact ⟨od, rfl, fun f => ⟨mA f, hl f, hr f⟩⟩

def kIsi (os es : List Str) (ask : Ask) : List D → Option D
  | [d, k] => (match d with
    | .obj c _ => if c ∈ os then (ask (.inr c) k).map D.bl else none
    | .exc c _ => if c ∈ es then (ask (.inr c) k).map D.bl else none
    | d => match d.tag with
      | some t => (ask t k).map D.bl
      | none => none)
  | _ => none
/-- what isinstance is asked: the value's class is known, one class -/
def rInst (C : Ctx) (Y : Cx) : List V → Hp → VK → Prop := fun vs H Q => (∃ v c tv u b, vs = [v, c] ∧ ClsV c u ∧ TyX C.K H v tv ∧ PySem.W.kitOne C.K tv u = some b ∧ Q (.bl b) H) ∨
  ∃ a cA dd c u b, vs = [.ref a, c] ∧ C.ex = some (a, .ref cA, dd) ∧ (∀ x, dd = some x → ∃ fvs, H x = some (.xd fvs)) ∧ ExIs C.K cA ∧ ClsV c u ∧ PySem.W.kitOne C.K (.ref cA) u = some b ∧ Q (.bl b) H
theorem call_isA {Y : Cx} {C : Ctx} (hK : C.K = Y.K) (hot : Hot Y C) : CallR Y (.builtin "isinstance") (rInst C Y) := by
  intro pins s σ H xs us Q I r h
  rcases h with ⟨v, c, tv, u, b, rfl, h1, h2, h3, q⟩ | ⟨a, cA, dd, c, u, b, rfl, h1, h2, h3, h4, h5, q⟩
  · rw [hK] at h2 h3
    exact call_isi pins s σ H _ us Q I r ⟨v, c, tv, u, b, rfl, h1, h2, h3, q⟩
  · obtain ⟨oe, od, J, _⟩ := exc_inst hot I h1 h2
    obtain ⟨u1, u2, rfl, r1, r2⟩ := r.two
    cases (show u1 = Value.ref a from r1)
    have e2 := h4.eq r2
    subst e2
    rw [hK] at h3 h5
    exact PySem.W.kia_one (PySem.W.kitx_exc h3.cl h3.ga h3.gt h3.sub h3.ha h3.hn h3.ht h3.hm) I.kIn J h5 (fun z => nomatch z) fun tk => ⟨.bl b, H, I.tok tk, rfl, q⟩
theorem TyX.of {C : Ctx} {G H : Hp} (S : Sub G H) {v : V} {d : D} {t : Sum String Str} (r : Rep C G v d) (n1 : d.isObj = false) (n2 : d.isExc = false) (e : d.tag = some t) : ∃ tv, TagV C t tv ∧ TyX C.K H v tv := by
  cases r with
  | non => cases e; exact ⟨_, .ty _, .base .non⟩
  | bl b => cases e; exact ⟨_, .ty _, .base (.bl b)⟩
  | int i => cases e; exact ⟨_, .ty _, .base (.int i)⟩
  | str x => cases e; exact ⟨_, .ty _, .base (.str x)⟩
  | tup h _ => cases e; exact ⟨_, .ty _, .base (.tup (S _ _ h))⟩
  | lst h _ => cases e; exact ⟨_, .ty _, .base (.lst (S _ _ h))⟩
  | dct h _ => cases e; exact ⟨_, .ty _, .base (.dK (S _ _ h))⟩
  | obj m h r => cases n1
  | pen h => cases e
  | fn h => cases e
  | ty n => cases e
  | clo h s0 => cases e
  | lam _ _ _ => cases e
  | exc0 h m => cases n2
  | scr h => cases e
  | exc1 h m g r => cases n2
theorem ClsD.of {C : Ctx} {G : Hp} {v : V} {k : D} (r : Rep C G v k) {ask : Ask} {t : Sum String Str} {b : Bool} (hk : (∃ n, k = .ty n) ∨ ∃ c, k = .fn c) : ∃ u, ClsV v u ∧ ClsD C k v u := by
  rcases hk with ⟨n, rfl⟩ | ⟨c, rfl⟩
  · cases r
    exact ⟨_, .ty n, .ty n⟩
  · cases r with
    | fn h => exact ⟨_, .own _, .own h⟩
/-- asked only of classes -/
def AskC (ask : Ask) : Prop := ∀ t k b, ask t k = some b → (∃ n, k = .ty n) ∨ ∃ c, k = .fn c
theorem BReps.two' {C : Ctx} {G : Hp} {σ : St} {env : Env} {vs : List V} {d e : D} (h : BReps C G σ env vs [d, e]) : ∃ v w, vs = [v, w] ∧ BRep C G σ env v d ∧ BRep C G σ env w e := by
  cases h with
  | cons h t =>
    cases t with
    | cons h2 t =>
      cases t
      exact ⟨_, _, rfl, h, h2⟩
theorem ok_isA {C : Ctx} {Y : Cx} {os es : List Str} {ask : Ask} (A : AskOk C ask) (AC : AskC ask) (K : Clss C os es) : CallOk C (rInst C Y) (kIsi os es ask) := by
  intro G H σ env p vs ds z Q L r ek q
  unfold kIsi at ek
  split at ek
  · rename_i d k
    obtain ⟨v, w, rfl, rv, rw'⟩ := r.two'
    have fr := rv.frz L
    have frk := rw'.frz L
    have fin : ∀ {t b}, ask t k = some b → ∃ u, ClsV w u ∧ ClsD C k w u := fun {t b} e => ClsD.of (ask := ask) (t := t) (b := b) frk (AC _ _ _ e)
    split at ek
    · rename_i c fs
      split at ek
      · rename_i hc
        cases ea : ask (.inr c) k with
        | none =>
          rw [ea] at ek
          cases ek
        | some b =>
          rw [ea] at ek
          cases ek
          obtain ⟨u, h1, h2⟩ := fin ea
          cases fr with
          | obj m h rr =>
            have ic := K.obj c hc _ m
            exact .inl ⟨_, _, _, u, b, rfl, h1, .base (.ins (L.frz_sub _ _ h) ic.cls ic.ha ic.hn ic.ht ic.hm), A.ok _ _ _ ea _ (.own m) _ _ h2, q _ G H (Alc.refl L.sub) (.bl _)⟩
      · cases ek
    · rename_i c fs
      split at ek
      · rename_i hc
        cases ea : ask (.inr c) k with
        | none =>
          rw [ea] at ek
          cases ek
        | some b =>
          rw [ea] at ek
          cases ek
          obtain ⟨u, h1, h2⟩ := fin ea
          cases fr with
          | exc0 h m => exact .inr ⟨_, _, _, _, u, b, rfl, h, (fun x e => by cases e), K.exc c hc _ m, h1, A.ok _ _ _ ea _ (.own m) _ _ h2, q _ G H (Alc.refl L.sub) (.bl _)⟩
          | exc1 h m g rr => exact .inr ⟨_, _, _, _, u, b, rfl, h, (fun x e => by cases e; exact ⟨_, L.frz_sub _ _ g⟩), K.exc c hc _ m, h1, A.ok _ _ _ ea _ (.own m) _ _ h2, q _ G H (Alc.refl L.sub) (.bl _)⟩
      · cases ek
    · rename_i n1 n2
      split at ek
      · rename_i t ht
        cases ea : ask t k with
        | none =>
          rw [ea] at ek
          cases ek
        | some b =>
          rw [ea] at ek
          cases ek
          obtain ⟨u, h1, h2⟩ := fin ea
          have m1 : d.isObj = false := by
            cases d <;> first | rfl | exact absurd rfl (n1 _ _)
          have m2 : d.isExc = false := by
            cases d <;> first | rfl | exact absurd rfl (n2 _ _)
          obtain ⟨tv, t1, t2⟩ := TyX.of L.frz_sub fr m1 m2 ht
          exact .inl ⟨v, w, tv, u, b, rfl, h1, t2, A.ok _ _ _ ea _ t1 _ _ h2, q _ G H (Alc.refl L.sub) (.bl _)⟩
      · cases ek
  · cases ek
section
variable {X : Cx} {C : Ctx} {W : WX} {e : Expr} {es' : List Expr} {a : AM} {m : EM} {pos p : Pos} {os es : List Str} {ask : Ask}
/-- isinstance(e, c) -/
theorem pm_isi (hK : C.K = X.K) (hot : Hot X C) (A : AskOk C ask) (AC : AskC ask) (K : Clss C os es) (hm : X.mg "isinstance" = none) (ha : PA X (e :: es') (rAB C W a)) (hg : Gl X "isinstance" := by rfl)
    (he : starEach (e :: es') X.env = (false, eval e X.env) :: starEach es' X.env := by rfl) (hpl : (backTo pos (starEach es' X.env)).any (·.1) = false := by rfl) : PE X (.Call (.Name "isinstance" p) (e :: es') [] pos) (rE C W (mCall (kIsi os es ask) a)) :=
  pm_cb (ok_isA A AC K) (call_isA hK hot) hm (by with_unfolding_all rfl) ha hg (by decide) (by decide) he hpl
/-- a class of the module, a built-in class, as a value -/
theorem pm_gty {x : Str} {n : String} (hm : X.mg x = none) (hv : bootBuiltins x = some (.type n)) (hg : Gl X x := by rfl) (hn : x ≠ "__name__" := by decide) (hd : (x == ("__debug__" : Str)) = false := by decide) : PE X (.Name x p) (rE C W (mC (.ty n))) :=
  (pe_bltn (v := .ty n) hg hm hv rfl hn hd).of (rE_const rfl fun _ => .ty _)
/-- e.f, e the caught error -/
def mExf (es : List Str) (f : Str) (m : EM) : EM := fun env p => (m env p).bind fun d q => match d with
  | .exc c fs => if c ∈ es then (match fs.lookup f with
    | some z => .ok z q
    | none => .bad) else .bad
  | _ => .bad
theorem pm_exf {f : Str} (hK : C.K = X.K) (hot : Hot X C) (K : Clss C os es) (hf : ∀ c ∈ es, ∀ cA, C.mg c = some (.ref cA) → PySem.W.findIn C.K (.ref cA) f = some none) (h : PE X e (rE C W m)) (hb : attributeBase e f X.env (eval e X.env) = eval e X.env := by rfl) : PE X (.Attribute e f pos) (rE C W (mExf es f m)) := by
  refine ⟨fun pins s σ H Q I ⟨G, env, p, L, o⟩ => ?_⟩
  have o2 := o.bind
  refine attr_of hb (thn (h.run pins s σ H (fun x H1 => ∃ a cA x1 fvs v, x = .ref a ∧ C.ex = some (a, .ref cA, some x1) ∧ H1 x1 = some (.xd fvs) ∧ ExIs C.K cA ∧ PySem.W.findIn C.K (.ref cA) f = some none ∧ fvs.lookup f = some v ∧ Q v H1) I ⟨G, env, p, L, o2.imp (fun d q z v G1 H1 x1 y1 r1 => ?_) fun _ _ z => z⟩) fun u s1 hh => ?_)
  · split at z
    · rename_i c fs
      split at z
      · rename_i hc
        cases el : fs.lookup f with
        | none =>
          rw [el] at z
          exact z.elim
        | some w =>
          rw [el] at z
          cases r1 with
          | exc0 h m => cases el
          | exc1 h m g rr =>
            obtain ⟨v, k1, k2⟩ := rr.at el
            exact ⟨_, _, _, _, v, rfl, h, x1.sub _ _ g, K.exc c hc _ m, hf c hc _ m, k1, z v G1 H1 x1 y1 k2⟩
      · exact z.elim
    · exact z.elim
  · obtain ⟨x, H1, I1, rx, a, cA, x1, fvs, v, rfl, h1, h2, h3, h4, h5, q⟩ := hh
    cases (show u = Value.ref a from rx)
    obtain ⟨oe, od, J, hl⟩ := exc_inst hot I1 h1 (fun x' e => by cases e; exact ⟨fvs, h2⟩)
    obtain ⟨o', rfl, hlk⟩ := hl x1 fvs rfl h2
    obtain ⟨r, l1, l2⟩ := hlk f
    rw [h5] at l2
    obtain ⟨w, rfl, rw'⟩ : ∃ w, r = some w ∧ RelV v w := by
      cases r with
      | none => exact l2.elim
      | some w => exact ⟨w, rfl, l2⟩
    rw [hK] at h3 h4
    exact HandSPX.exc_get I1.kIn J h3.ga h3.gt h3.sub (PySem.W.findObj_own h3.hd h4 rfl l1) (handed_of rw') ⟨v, H1, I1.tok _, rw', q⟩
end
end Pu
end

section
set_option maxHeartbeats 2000000
namespace Pu
open PySem PySem.Spec PyProof.Rows L2

/-! ### where an error is being handled: defs called there -/
/-- the context of a suite, of a def called there -/
structure Wh (X : Cx) (C : Ctx) (k : Nat) : Prop where
  K : C.K = X.K
  mg : C.mg = X.mg
  room : L2H.RoomH k X.A
  gd : X.A.guards = some []
  hot : Hot X C
  is : ∃ v, C.ex = some v
theorem Wh.hu {X : Cx} {C : Ctx} {k : Nat} (w : Wh X C k) : X.A.units + 64 < cLine := by
  have h := w.room.un
  omega
/-- a promise of a def called there: p is the caught error's object -/
structure FnQ (P : Program) (w : World) (K : PySem.W.Frag) (mg : Str → Option Value) (base : Heap) (CX : CXT) (k : Nat) (f : Addr) (fd : FuncData) (ps : List Str) (sp : Addr × Obj → Sp) : Prop where
  len : ∀ p vs H Q E, sp p vs H Q E → vs.length = ps.length
  run : ∀ (A : Around) (outer : List PySem.Env) (s : Shared) (H : Hp) (args : Args) (us : List Value) (vs : List V) (Q : VK) (E : XK) (p : Addr × Obj), L2H.RoomH k A → A.guards = some [] → L2H.PinOk outer H s p → Env0 P w K mg base A outer s H → BindsTo s fd args (ps.zip us) → Vals vs us → sp p vs H Q E →
    codeAny (model P w) A (.call (.ref f) args) (CR CX outer P w H s Q E) s
/-- the same, told by a mirror, under a context that bears the error -/
def spQ (C : Ctx) (m : FM) (n : Nat) : Addr × Obj → Sp := fun p vs H Q E => (∃ cls dd, C.ex = some (p.1, cls, dd) ∧ Zc cls dd p.2 ∧ ∃ us, p.2.data = .fields us) ∧ spM C m n vs H Q E
def mDefQ (n : Nat) (m : SM) : FM := fun ds p => (mDef n m ds p).ne
theorem fn_hot {C : Ctx} {P : Program} {w : World} {base : Heap} {k : Nat} {f : Addr} {name qual : Str} {params : Arguments} {body : List Stmt} {scope : Scope} {dV kV doc pm cdv ct oc : Value} {an od : Option Addr}
    {osl : Array (Option Value)} {N ps : List Str} {m : SM} (lk : C.K.lookup f = some ⟨oc, od, .func (PySem.W.fnOf name qual params body scope dV kV doc pm an cdv ct), osl⟩) (hcd : PySem.W.codeIn C.K cdv qual = true) (S : FnScope N ps scope)
    (hb : ∀ (A : Around) (outer : List PySem.Env) (s : Shared) (H : Hp) (E : XK) (p : Addr × Obj), Wh (L2H.cxH (L2.CX P w) P w C.K C.mg base N qual scope f cdv A outer s H E p) C k → PSs (L2H.cxH (L2.CX P w) P w C.K C.mg base N qual scope f cdv A outer s H E p) body (rS C W0 m)) :
    FnQ P w C.K C.mg base (L2.CX P w) (k + 1) f (PySem.W.fnOf name qual params body scope dV kV doc pm an cdv ct) ps (spQ C (mDefQ N.length m) ps.length) := by
  refine ⟨fun p vs H Q E ⟨_, _, _, _, h, _⟩ => h, fun A outer s H args us vs Q E p hr hg hp e0 hbi r hsp => ?_⟩
  obtain ⟨⟨cls, dd, x1, x2, x3⟩, G, ds, pn, hl, hs, ht, hn, hy, hr', ho⟩ := hsp
  have KX : C.K.In s.heap := e0.mod.kin.keeps fun b o e => (e0.bs b o e).1
  have lim : s.heap.NoLimit := e0.mod.nolimit.keeps fun b o e => (e0.bs b o e).1
  have kinds : ∀ y ∈ ps.zip us, scope.names.lookup y.1 = some .local ∨ (scope.names.lookup y.1 = some .cell ∧ ((cellsFrom (s.heap.objs.size + 1) scope.names []).lookup y.1).isSome = true) := fun y hy => by
    have hy1 : (y.1, y.2) ∈ ps.zip us := hy
    rcases S.par y.1 (List.of_mem_zip hy1).1 with q | q
    · exact .inl q
    · exact .inr ⟨q, PySem.W.cellsFrom_some _ _ _ (.inl q)⟩
  refine codeAny_call_function hr.depth (KX _ _ lk) rfl S.co S.gen rfl (PySem.W.codeRec_of KX hcd) (hbi _ _ _ _ ?_)
  refine wpAny_newFunctionEnv_cells S.kind kinds fun env he s1 x => ?_
  subst he
  refine ⟨lim.keeps x.toInCall.keep, codeAny_func ?_⟩
  have I := L2H.inv_startH (CX := L2.CX P w) (E := E) (f := f) (cd := cdv) (qual := qual) S hp e0 hl r x
  have wh : Wh (L2H.cxH (L2.CX P w) P w C.K C.mg base N qual scope f cdv A outer s H E p) C k := ⟨rfl, rfl, hr.deeper _, hg, ⟨fun a c d e => by
    rw [x1] at e
    cases e
    exact ⟨p.2, List.mem_singleton.mpr rfl, x2, x3⟩⟩, _, x1⟩
  have go : rS C W0 m { nx := fun _ H' => Q .non H', rt := Q } (L2.start N vs) H := by
    refine ⟨G, H, G, env0 N.length ds, pn, start_sok hs ht hn hy hr', ?_⟩
    unfold mDefQ mDef at ho
    cases e : m (env0 N.length ds) pn with
    | next env q =>
      rw [e] at ho
      exact fun σ' G' H' S' _ => ho .non G' H' S'.x S'.l.pen .non
    | ret d q =>
      rw [e] at ho
      exact ho
    | err er env q =>
      rw [e] at ho
      exact False.elim ho
    | brk env q =>
      rw [e] at ho
      exact ho.elim
    | cnt env q =>
      rw [e] at ho
      exact ho.elim
    | bad =>
      rw [e] at ho
      exact ho.elim
  refine wpAny_mono ((hb A outer s H E p wh).run [] s1 _ H _ I go) (fun fl s' h => ?_) fun e s' h => h
  cases fl with
  | ret u =>
    obtain ⟨v, σ', H', J, rv, q⟩ := h
    exact ⟨v, H', J.os, J.bare, J.base, J.hok, rv, q⟩
  | next =>
    obtain ⟨σ', H', J, q⟩ := h
    exact ⟨.non, H', J.os, J.bare, J.base, J.hok, rfl, q⟩
  | brk => exact h.elim fun _ h => h.elim fun _ h => h.2.elim
  | cont => exact h.elim fun _ h => h.elim fun _ h => h.2.elim

/-- such a def, by its name -/
structure FnX (C : Ctx) (P : Program) (w : World) (base : Heap) (x : Str) (k n : Nat) (m : FM) : Prop where
  ex : ∃ (f : Addr) (fd : FuncData) (ps : List Str), C.mg x = some (.ref f) ∧ PySem.W.keepIn C.K (.ref f) = true ∧ Binds C.K fd ps [] ∧ ps.length = n ∧ FnQ P w C.K C.mg base (L2.CX P w) k f fd ps (spQ C m n)
section
variable {X : Cx} {C : Ctx} {W : WX} {e : Expr} {es : List Expr} {a : AM} {pos p : Pos} {x : Str} {k j n : Nat} {m : FM}
theorem pm_callQ (F : FnX C X.prog X.w X.base x k n m) (w : Wh X C j) (hk : k ≤ j) (ha : PA X (e :: es) (rA C W a)) (hl : ALen a n) (hg : Gl X x := by rfl) (hdb : (x == ("__debug__" : Str)) = false := by decide)
    (he : starEach (e :: es) X.env = (false, eval e X.env) :: starEach es X.env := by rfl) (hpl : (backTo pos (starEach es X.env)).any (·.1) = false := by rfl) : PE X (.Call (.Name x p) (e :: es) [] pos) (rE C W (mFn (fun ds q => (m ds q).ne) a)) := by
  obtain ⟨f, fd, ps, h1, h2, h3, h4, F⟩ := F.ex
  refine ⟨fun pins s σ H Q I ⟨G, env, p0, L, o⟩ => ?_⟩
  have hm1 : X.mg x = some (.ref f) := by rw [← w.mg]; exact h1
  rw [w.K] at h2 h3 F
  rw [w.mg] at F
  refine wpAny_Call_Name_kw (ld_glob I hg hm1 ?_ hdb)
  have o2 := o.bind
  cases ea : a env p0 with
  | bad =>
    rw [ea] at o2
    exact o2.elim
  | err er q =>
    have z : rA C W a σ H (fun _ _ => False) := ⟨G, env, p0, L, by rw [ea] at o2 ⊢; exact o2⟩
    refine PySem.W.callWith_K (h₀ := X.base) I.ok.mod.kin h2 (thn (ha.run pos pins s σ H _ I z) fun us s1 ⟨vs, H1, I1, r, q⟩ => q.elim) he hpl
  | ok ds q =>
    have lds := hl _ _ _ _ ea
    rw [ea] at o2
    have z : rA C W a σ H (fun vs H1 => spM C m n vs H1 Q (fun _ _ _ => False)) := ⟨G, env, p0, L, by
      rw [ea]
      intro vs G1 H1 x1 y1 r1
      refine ⟨G1, ds, q, by rw [r1.length]; exact lds, x1.sub, x1.tab, x1.nt L.tab L.nt, y1, r1, OutP.ne (OutP.imp o2 (fun d q2 z2 v G2 H2 x2 y2 r2 => z2 v G2 H2 (x1.trans x2) y2 r2) fun er q2 z2 => z2)⟩⟩
    refine PySem.W.callWith_K (h₀ := X.base) I.ok.mod.kin h2 (thn (ha.run pos pins s σ H _ I z) fun us s1 ⟨vs, H1, I1, r, h⟩ => ⟨I1.kIn, ?_⟩) he hpl
    obtain ⟨⟨ax, cls, dd⟩, hx⟩ := w.is
    obtain ⟨oe, hp, z1, z2⟩ := w.hot.at_ ax cls dd hx
    have P1 := I1.pin (ax, oe) (List.mem_append_left _ hp)
    have pin : L2H.PinOk X.stack H1 s1 (ax, oe) := ⟨P1.1, P1.2.1, fun hm => (List.mem_cons.mp (I1.stkSub ax hm)).elim P1.2.2.1 P1.2.2.2.1, P1.2.2.2.2⟩
    have hsp : spQ C m n (ax, oe) vs H1 Q (fun _ _ _ => False) := ⟨⟨cls, dd, hx, z1, z2⟩, h⟩
    have hl2 : us.length = ps.length := by
      rw [← r.length]
      exact F.len _ _ _ _ _ hsp
    have b := h3 s1 us I1.kIn (by rw [List.append_nil]; exact hl2)
    rw [List.append_nil] at b
    refine wpAny_call (codeAny_mono (F.run X.A X.stack s1 H1 ⟨us, []⟩ us vs Q (fun _ _ _ => False) (ax, oe) (w.room.mono hk) w.gd pin I1.env0 b r hsp) fun res s' done => ?_)
    cases res with
    | error er =>
      obtain ⟨_, _, _, _, _, _, _, _, _, _, _, _, z⟩ := done
      exact z.elim
    | ok fl => cases fl with
      | ret u => exact I1.after done
      | next => exact done.elim
      | brk => exact done.elim
      | cont => exact done.elim
end

/-! ### with the caught error in the context, without -/
def Ctx.hot (C : Ctx) (v : Addr × Value × Option Addr) : Ctx := { C with ex := some v }
mutual
def D.noX : D → Bool
  | .exc _ _ => false
  | .tup xs => D.noXs xs
  | .lst xs => D.noXs xs
  | .dct ks => D.noXk ks
  | .obj _ fs => D.noXf fs
  | .non => true
  | .bl _ => true
  | .int _ => true
  | .str _ => true
  | .pen => true
  | .fn _ => true
  | .ty _ => true
  | .scr _ => true
  | .clo => true
  | .lam _ => true
def D.noXs : List D → Bool
  | [] => true
  | x :: xs => x.noX && D.noXs xs
def D.noXk : List (Key × D) → Bool
  | [] => true
  | (_, x) :: xs => x.noX && D.noXk xs
def D.noXf : List (Str × D) → Bool
  | [] => true
  | (_, x) :: xs => x.noX && D.noXf xs
end
section
variable {C : Ctx} {v0 : Addr × Value × Option Addr}
mutual
theorem Rep.hot (h0 : C.ex = none) {G : Hp} : ∀ {v : V} {d : D}, Rep C G v d → Rep (C.hot v0) G v d
  | _, _, .non => .non
  | _, _, .bl b => .bl b
  | _, _, .int i => .int i
  | _, _, .str x => .str x
  | _, _, .tup h r => .tup h (Reps.hot h0 r)
  | _, _, .lst h r => .lst h (Reps.hot h0 r)
  | _, _, .dct h r => .dct h (RepK.hot h0 r)
  | _, _, .obj m h r => .obj m h (RepF.hot h0 r)
  | _, _, .pen h => .pen h
  | _, _, .fn h => .fn h
  | _, _, .ty n => .ty n
  | _, _, .scr h => .scr h
  | _, _, .clo h s0 => .clo h s0
  | _, _, .lam h g c => .lam h g c
  | _, _, .exc0 h m => by rw [h0] at h; cases h
  | _, _, .exc1 h m g r => by rw [h0] at h; cases h
theorem Reps.hot (h0 : C.ex = none) {G : Hp} : ∀ {vs : List V} {ds : List D}, Reps C G vs ds → Reps (C.hot v0) G vs ds
  | _, _, .nil => .nil
  | _, _, .cons h t => .cons (Rep.hot h0 h) (Reps.hot h0 t)
theorem RepK.hot (h0 : C.ex = none) {G : Hp} : ∀ {vs : List (Key × V)} {ds : List (Key × D)}, RepK C G vs ds → RepK (C.hot v0) G vs ds
  | _, _, .nil => .nil
  | _, _, .cons h t => .cons (Rep.hot h0 h) (RepK.hot h0 t)
theorem RepF.hot (h0 : C.ex = none) {G : Hp} : ∀ {vs : List (Str × V)} {ds : List (Str × D)}, RepF C G vs ds → RepF (C.hot v0) G vs ds
  | _, _, .nil => .nil
  | _, _, .cons h t => .cons (Rep.hot h0 h) (RepF.hot h0 t)
end
mutual
theorem Rep.cold {G : Hp} : ∀ {v : V} {d : D}, Rep (C.hot v0) G v d → d.noX = true → Rep C G v d
  | _, _, .non, _ => .non
  | _, _, .bl b, _ => .bl b
  | _, _, .int i, _ => .int i
  | _, _, .str x, _ => .str x
  | _, _, .tup h r, e => .tup h (Reps.cold r (by simpa only [D.noX] using e))
  | _, _, .lst h r, e => .lst h (Reps.cold r (by simpa only [D.noX] using e))
  | _, _, .dct h r, e => .dct h (RepK.cold r (by simpa only [D.noX] using e))
  | _, _, .obj m h r, e => .obj m h (RepF.cold r (by simpa only [D.noX] using e))
  | _, _, .pen h, _ => .pen h
  | _, _, .fn h, _ => .fn h
  | _, _, .ty n, _ => .ty n
  | _, _, .scr h, _ => .scr h
  | _, _, .clo h s0, _ => .clo h s0
  | _, _, .lam h g c, _ => .lam h g c
  | _, _, .exc0 h m, e => by simp [D.noX] at e
  | _, _, .exc1 h m g r, e => by simp [D.noX] at e
theorem Reps.cold {G : Hp} : ∀ {vs : List V} {ds : List D}, Reps (C.hot v0) G vs ds → D.noXs ds = true → Reps C G vs ds
  | _, _, .nil, _ => .nil
  | _, _, .cons h t, e => by
    simp only [D.noXs, Bool.and_eq_true] at e
    exact .cons (Rep.cold h e.1) (Reps.cold t e.2)
theorem RepK.cold {G : Hp} : ∀ {vs : List (Key × V)} {ds : List (Key × D)}, RepK (C.hot v0) G vs ds → D.noXk ds = true → RepK C G vs ds
  | _, _, .nil, _ => .nil
  | _, _, .cons h t, e => by
    simp only [D.noXk, Bool.and_eq_true] at e
    exact .cons (Rep.cold h e.1) (RepK.cold t e.2)
theorem RepF.cold {G : Hp} : ∀ {vs : List (Str × V)} {ds : List (Str × D)}, RepF (C.hot v0) G vs ds → D.noXf ds = true → RepF C G vs ds
  | _, _, .nil, _ => .nil
  | _, _, .cons h t, e => by
    simp only [D.noXf, Bool.and_eq_true] at e
    exact .cons (Rep.cold h e.1) (RepF.cold t e.2)
end
def Slot.noX : Slot → Bool
  | .un => true
  | .val d => d.noX
  | .own ds => D.noXs ds
theorem Tb.hot {H : Hp} (t : Tb C H) : Tb (C.hot v0) H := ⟨t.tabs, t.sm, t.co⟩
theorem Tb.cold {H : Hp} (t : Tb (C.hot v0) H) : Tb C H := ⟨t.tabs, t.sm, t.co⟩
theorem Ext.hot {G H G' H' : Hp} (x : Ext C G H G' H') : Ext (C.hot v0) G H G' H' := ⟨x.sub, x.gro, x.new, x.kee, x.fre, x.tab.hot⟩
theorem Ext.cold {G H G' H' : Hp} (x : Ext (C.hot v0) G H G' H') : Ext C G H G' H' := ⟨x.sub, x.gro, x.new, x.kee, x.fre, x.tab.cold⟩
theorem SOk.hot {G0 H0 G H : Hp} {σ : St} {env : Env} {p : Pen} (h0 : C.ex = none) (S : SOk C G0 H0 G H σ env p) : SOk (C.hot v0) G0 H0 G H σ env p :=
  ⟨⟨S.l.sub, S.l.tab.hot, S.l.pen, S.l.len, fun i x s h1 h2 => by
    have z := S.l.slot i x s h1 h2
    cases z with
    | un => exact .un _
    | val r => exact .val (r.hot h0)
    | own h n r => exact .own h n (r.hot h0), S.l.dis, S.l.nt⟩, S.x.hot, S.f⟩
theorem SOk.cold {G0 H0 G H : Hp} {σ : St} {env : Env} {p : Pen} (S : SOk (C.hot v0) G0 H0 G H σ env p) (h : env.all Slot.noX = true) : SOk C G0 H0 G H σ env p :=
  ⟨⟨S.l.sub, S.l.tab.cold, S.l.pen, S.l.len, fun i x s h1 h2 => by
    have z := S.l.slot i x s h1 h2
    have n := List.all_eq_true.mp h s (List.mem_of_getElem? h2)
    cases z with
    | un => exact .un _
    | val r => exact .val (r.cold n)
    | own h n' r => exact .own h n' (r.cold n), S.l.dis, S.l.nt⟩, S.x.cold, S.f⟩
theorem SOk.setU {G0 H0 G H : Hp} {σ : St} {env : Env} {p : Pen} (S : SOk C G0 H0 G H σ env p) (i : Nat) {v : Option V} : SOk C G0 H0 G H (σ.set i v) (env.set i .un) p := S.less (S.l.setU i) (Less.setU i)
end

/-! ### try .. except .. as -/
/-- the clause takes an error whose class is among es -/
def mTry (es : List Str) (i : Nat) (body suite : SM) : SM := fun env p => match body env p with
  | .err e env1 q => if e.c ∈ es then (match suite (env1.set i (.val (.exc e.c e.fs))) q with
    | .next env2 q2 => if (env2.set i .un).all Slot.noX = true then .next (env2.set i .un) q2 else .bad
    | .ret d q2 => if d.noX = true then .ret d q2 else .bad
    | _ => .bad) else .bad
  | r => r
section
variable {X : Cx} {C : Ctx} {W : WX} {gd : Bool} {k i : Nat} {x n : Str} {c : Value} {body suite : List Stmt} {b₀ : Stmt} {np pos pos' : Pos} {mb ms : SM} {es : List Str}
theorem rd_try (h0 : C.ex = none) (hK : C.K = X.K) (hc : ∀ y ∈ es, ∀ cA, C.mg y = some (.ref cA) → PySem.W.exmOne C.K (.ref cA) c = some true) {D : Ends} {σ : St} {H : Hp} (h : rS C W (mTry es i mb ms) D σ H) :
    rS C (wAs X.K c i (fun a cls d => rS (C.hot (a, cls, d)) W0 ms) W D) mb D σ H := by
  obtain ⟨G0, H0, G, env, p, S, o⟩ := h
  refine ⟨G0, H0, G, env, p, S, ?_⟩
  unfold mTry at o
  cases e : mb env p with
  | next env q =>
    rw [e] at o
    exact o
  | ret d q =>
    rw [e] at o
    exact o
  | brk env q =>
    rw [e] at o
    exact o
  | cnt env q =>
    rw [e] at o
    exact o
  | bad =>
    rw [e] at o
    exact o
  | err er env1 q =>
    rw [e] at o
    have o1 : ResP C W G0 H0 G D (if er.c ∈ es then (match ms (env1.set i (.val (.exc er.c er.fs))) q with
      | .next env2 q2 => if (env2.set i .un).all Slot.noX = true then .next (env2.set i .un) q2 else .bad
      | .ret d q2 => if d.noX = true then .ret d q2 else .bad
      | _ => .bad) else .bad) := o
    split at o1
    · rename_i hm
      intro cls dd σ' G' H' S' s' r
      obtain ⟨cA, c1, c2, c3⟩ := r
      subst c2
      refine ⟨true, by rw [← hK]; exact hc _ hm _ c1, fun _ a ha => ?_, fun z => by cases z⟩
      have sx : Rep (C.hot (a, .ref cA, dd)) G' (.ref a) (.exc er.c er.fs) := by
        rcases c3 with ⟨e1, e2⟩ | ⟨x, fvs, e1, e2, e3⟩
        · subst e2
          rw [e1]
          exact .exc0 rfl c1
        · subst e1
          exact .exc1 rfl c1 e2 (e3.hot h0)
      have Sh : SOk (C.hot (a, .ref cA, dd)) G0 H0 G' H' (σ'.set i (some (.ref a))) (env1.set i (.val (.exc er.c er.fs))) q := (S'.hot h0).setV i sx
      refine ⟨G0, H0, G', _, q, Sh, ?_⟩
      cases e2 : ms (env1.set i (.val (.exc er.c er.fs))) q with
      | next env2 q2 =>
        rw [e2] at o1
        have o2 : ResP C W G0 H0 G D (if (env2.set i .un).all Slot.noX = true then .next (env2.set i .un) q2 else .bad) := o1
        split at o2
        · rename_i nx
          intro σ2 G2 H2 S2 s2
          exact o2 _ G2 H2 ((S2.setU i).cold nx) (s'.trans s2)
        · exact o2.elim
      | ret d q2 =>
        rw [e2] at o1
        have o2 : ResP C W G0 H0 G D (if d.noX = true then .ret d q2 else .bad) := o1
        split at o2
        · rename_i nx
          exact fun v G2 H2 x2 y2 r2 => o2 v G2 H2 x2.cold y2 (r2.cold nx)
        · exact o2.elim
      | brk env2 q2 =>
        rw [e2] at o1
        exact o1.elim
      | cnt env2 q2 =>
        rw [e2] at o1
        exact o1.elim
      | err er2 env2 q2 =>
        rw [e2] at o1
        exact o1.elim
      | bad =>
        rw [e2] at o1
        exact o1.elim
    · exact o1.elim
end
end Pu
end

section
set_option maxHeartbeats 2000000
namespace Pu
open PySem PySem.Spec PyProof.Rows L2

section
variable {X : Cx} {C : Ctx} {W : WX} {k i : Nat} {x n : Str} {cA : Addr} {body suite : List Stmt} {b₀ : Stmt} {np pos pos' : Pos} {mb ms : SM} {es : List Str}
/-- try: body / except x as n: suite -/
theorem sm_try (w : Wk X C W true k) (hN : X.N.Nodup) (hm : X.mg x = some (.ref cA)) (hc : ∀ y ∈ es, ∀ cB, C.mg y = some (.ref cB) → PySem.W.exmOne C.K (.ref cB) (.ref cA) = some true)
    (hb : ∀ (W' : WX) (pn : List (Addr × Obj)) (xe : Value → Shared → Prop), Wk (X.tr pn xe) C W' true k → PSs (X.tr pn xe) body (rS C W' mb))
    (hsu : ∀ (a : Addr) (oe : Obj) (cls : Value) (dd : Option Addr) (pn : List (Addr × Obj)), Wh (X.suite a ((a, oe) :: pn)) (C.hot (a, cls, dd)) k → PSs (X.suite a ((a, oe) :: pn)) (b₀ :: suite) (rS (C.hot (a, cls, dd)) W0 ms))
    (hi : X.N[i]? = some n := by rfl) (hs : X.stack = X.env :: X.outer := by rfl) (hf : X.env.frame = some X.env.locals := by rfl) (hln : X.env.kindOf n = some .local := by rfl) (hg : Gl X x := by rfl) (hd : (x == ("__debug__" : Str)) = false := by decide) :
    PS X (.Try body [.ExceptHandler (some (.Name x np)) (some n) (b₀ :: suite) pos'] [] [] pos) (rS C W (mTry es i mb ms)) :=
  (ps_try_as (c := .ref cA) (tb := fun W' => rS C W' mb) (ts := fun a cls dd => rS (C.hot (a, cls, dd)) W0 ms) hs hf hN hi hln ⟨hg, hd, .inl hm⟩ w.tk
    (fun W' pn xe tk _ => hb W' pn xe ⟨w.K, w.mg, w.room, w.gd, tk, w.cold⟩)
    (fun a oe cls dd pn hz hv => hsu a oe cls dd pn ⟨w.K, w.mg, L2H.roomH_of w.room |> fun r => ⟨r.dp, r.un⟩, w.gd rfl, ⟨fun a' c' d' e => by
      cases e
      exact ⟨oe, List.mem_cons_self, hz, hv⟩⟩, _, rfl⟩)).of fun D σ H h => rd_try w.cold w.K hc h
end

/-! ### the script -/
section
variable {X : Cx} {C : Ctx} {W : WX} {tg l e : Expr} {m : EM} {pos p : Pos}
def mItS (m : EM) : AM := fun env p => (m env p).bind fun d q => match d with
  | .scr ns => .ok (ns.map D.int) q
  | _ => .bad
theorem im_scr (hK : C.K = X.K) (h : PE X l (rE C W m)) : PI X tg l (rI C W true (mItS m)) := (pi_list (tg := tg) h).of fun σ H R ⟨G, env, p, L, o⟩ => by
  refine ⟨G, env, p, L, o.bind.imp (fun d q z v G1 H1 x1 y1 r1 => ?_) fun _ _ z => z⟩
  split at z
  · rename_i ns
    cases r1 with
    | @scr a _ h =>
      rw [hK] at h
      refine ⟨a, rfl, ⟨_, SqL.mono x1.sub h⟩, z _ G1 H1 x1 y1 ?_⟩
      have w := walk_list (K := X.K) (a := a) (xs := ns.map V.int)
      have el : (ns.map V.int).length = (ns.map D.int).length := by rw [List.length_map, List.length_map]
      rw [el] at w
      refine ⟨_, _, w, fun G' H' s1 s2 _ => SqL.mono s2 (SqL.mono s1 h), fun i d G' H' x H'' hd s1 s2 y => ?_⟩
      obtain ⟨e1, e2⟩ := y
      obtain ⟨d', k1, k2⟩ := (Reps.ints (C := C) (G := G1) ns).getL e2
      rw [hd] at k1
      cases k1
      subst e1
      exact ⟨G', Alc.refl s2, k2.mono s1⟩
  · exact z.elim
def kListS : List D → Option (List D)
  | [.scr ns] => some (ns.map D.int)
  | _ => none
theorem ok_listS {C : Ctx} {K : PySem.W.Frag} (hK : C.K = K) : FCallOk C (fun xs H Q => ∃ p ys, xs = [.ref p] ∧ (SqL K H p ys ∨ SqT K H p ys) ∧ ∀ l, H l = none → Q (.ref l) (upd H l (.lst ys))) kListS := by
  intro G H σ env p vs ds z Q L r ek q
  unfold kListS at ek
  split at ek
  · rename_i ns
    cases ek
    obtain ⟨v, rfl, rv⟩ := r.one
    rcases rv with rv | ⟨_, _, _, _, e2, _⟩
    · cases rv with
      | scr h =>
        rw [hK] at h
        exact ⟨_, ns.map V.int, rfl, .inl (SqL.mono L.sub h), fun l hl => q l _ hl (Reps.ints ns)⟩
    · cases e2
  · cases ek
theorem pm_listS {a : AM} (hK : C.K = X.K) (hm : X.mg "list" = none) (ha : PA X [e] (rAB C W a)) (hg : Gl X "list" := by rfl) (he : starEach [e] X.env = (false, eval e X.env) :: starEach [] X.env := by rfl) (hpl : (backTo pos (starEach [] X.env)).any (·.1) = false := by rfl) :
    PE X (.Call (.Name "list" p) [e] [] pos) (rF C W (mFCall kListS a)) := pm_ctF (ok_listS hK) call_list_of hm (by with_unfolding_all rfl) ha hg (by decide) (by decide) he hpl
end

/-! ### dict displays -/
def mPairs : List (Key × EM) → Env → Pen → Out (List (Key × D))
  | [], _, p => .ok [] p
  | (k, m) :: r, env, p => (m env p).bind fun d q => (mPairs r env q).bind fun ks q2 => .ok ((k, d) :: ks) q2
def mDisp (ms : List (Key × EM)) : EM := fun env p => (mPairs ms env p).bind fun ks q => if ks.length ≤ 15 ∧ (ks.map (·.1)).Nodup then .ok (.dct ks) q else .bad
theorem RepK.keys {C : Ctx} {G : Hp} : ∀ {kvs : List (Key × V)} {ks : List (Key × D)}, RepK C G kvs ks → kvs.map (·.1) = ks.map (·.1)
  | _, _, .nil => rfl
  | _, _, .cons _ t => by rw [List.map_cons, List.map_cons, RepK.keys t]
theorem putK_new : ∀ {acc : List (Key × V)} {k : Key} {v : V}, k ∉ acc.map (·.1) → putK acc k v = acc ++ [(k, v)] := fun {acc k v} h => by
  unfold putK
  rw [if_neg]
  intro z
  obtain ⟨p, h1, h2⟩ := List.any_eq_true.mp z
  exact h (List.mem_map.mpr ⟨p, h1, of_decide_eq_true h2⟩)
theorem mergeK_nodup : ∀ {more acc : List (Key × V)}, ((acc ++ more).map (·.1)).Nodup → mergeK acc more = acc ++ more
  | [], acc, _ => by
    rw [List.append_nil]
    rfl
  | (k, v) :: more, acc, h => by
    have h2 : ((acc ++ [(k, v)] ++ more).map (·.1)).Nodup := by
      rw [List.append_assoc]
      exact h
    have h1 : k ∉ acc.map (·.1) := fun z => by
      rw [List.map_append, List.map_cons] at h
      exact (List.nodup_append.mp h).2.2 k z k List.mem_cons_self rfl
    show mergeK (putK acc k v) more = _
    rw [putK_new h1, mergeK_nodup h2, List.append_assoc]
    rfl
theorem rd_pairs {C : Ctx} {W : WX} : ∀ (ms : List (Key × EM)) {G : Hp} {σ : St} {H : Hp} {env : Env} {p : Pen} {Q : List (V × V) → Hp → Prop}, LOk C G H σ env p →
    OutP (mPairs ms env p) (fun ks q => ∀ kvs G' H', Ext C G H G' H' → PenAt C G' H' q → RepK C G' kvs ks → Q (kvs.map fun kv => (kV kv.1, kv.2)) H') (ErrP C W G H σ) → tPairs (ms.map fun km => (tC (kV km.1), rE C W km.2)) σ H Q
  | [], G, σ, H, env, p, Q, L, o => o [] G H (Ext.refl L.sub L.tab) L.pen .nil
  | (k, m) :: r, G, σ, H, env, p, Q, L, o => by
    refine ⟨G, env, p, L, (OutP.bind o).imp (fun d q z v G1 H1 x1 y1 r1 => ?_) fun _ _ z => z⟩
    exact rd_pairs r (L.step x1 y1) (z.bind.imp (fun ks q2 z2 kvs G2 H2 x2 y2 r2 => z2 ((k, v) :: kvs) G2 H2 (x1.trans x2) y2 (.cons (r1.mono x2.gro) r2)) fun _ _ z => z.step x1)
theorem tb_put {C : Ctx} {H : Hp} {l : Addr} {o o2 : HO} (t : Tb C H) (h : H l = some o) (n1 : ∀ ps, o ≠ .tbl ps) (n2 : ∀ c q, o ≠ LamX.CodeO c q) (n3 : ∀ a u, o ≠ .frz a u) : Tb C (upd H l o2) := by
  have k : ∀ b u, H b = some u → u ≠ o → upd H l o2 b = some u := fun b u e n => by
    rw [upd_ne (fun z => by
      rw [z, h] at e
      cases e
      exact n rfl)]
    exact e
  refine ⟨fun q hq => ?_, t.sm.elim fun a e => e.elim fun u q => ⟨a, u, k _ _ q (n3 a u).symm⟩, fun f c q Gc e => k _ _ (t.co f c q Gc e) (n2 c q).symm⟩
  obtain ⟨ps, e1, e2, e3⟩ := t.tabs q hq
  refine ⟨ps, k _ _ e1 (n1 ps).symm, e2, fun pos cv hc => ?_⟩
  obtain ⟨c, c1, c2⟩ := e3 pos cv hc
  exact ⟨c, c1, k _ _ c2 (n2 c _).symm⟩
theorem dK_code {kvs : List (Key × V)} (c : Addr) (q : Str) : HO.dK kvs ≠ LamX.CodeO c q := fun z => by
  unfold LamX.CodeO at z
  cases z
section
variable {X : Cx} {C : Ctx} {W : WX} {pos : Pos}
theorem pm_disp {keys : List (Option Expr)} {values : List Expr} {ms : List (Key × EM)} (h : PPs X pos keys values (ms.map fun km => (tC (kV km.1), rE C W km.2))) (hall : keys.all (·.isSome) = true := by rfl) (hl : keys.length = values.length := by rfl) (h0 : keys ≠ [] := by exact fun z => nomatch z)
    (h15 : keys.length ≤ 15 := by decide) : PE X (.Dict keys values pos) (rE C W (mDisp ms)) := (pe_disp h hall hl h0 h15).of fun σ H Q ⟨G, env, p, L, o⟩ => by
  intro t ht
  have al : Alc G H G (upd H t (.dK [])) := Alc.own L.sub ht
  have gt : G t = none := free_of L.sub ht
  have L1 := L.alc al
  refine rd_pairs ms L1 (o.bind.imp (fun ks q z kvs G2 H2 x2 y2 r2 => ?_) fun _ _ z => ErrP.step z (L.ext al))
  split at z
  · rename_i c
    have e2 : H2 t = some (.dK []) := x2.kee _ _ upd_same (fun e => by
      obtain ⟨_, w, _⟩ := L1.pen t e
      rw [upd_same] at w
      cases w) fun _ w => by cases w
    have g2 : G2 t = none := by
      cases e : G2 t with
      | none => rfl
      | some u =>
        rcases x2.new t u e with w | w | ⟨q, w⟩
        · rw [gt] at w
          cases w
        · rw [upd_same] at w
          cases w
        · rw [x2.sub _ _ e, w] at e2
          cases e2
    have lk : kvs.length = ks.length := by
      have := congrArg List.length r2.keys
      rwa [List.length_map, List.length_map] at this
    refine ⟨e2, kvs, rfl, by rw [lk]; exact c.1, ?_⟩
    rw [mergeK_nodup (acc := []) (by rw [List.nil_append, r2.keys]; exact c.2), List.nil_append]
    have pe : ∀ b, C.pa = some b → b ≠ t := fun b e w => by
      obtain ⟨_, w1, _⟩ := y2 b e
      rw [w, e2] at w1
      cases w1
    have s2 : Sub G2 (upd G2 t (.dK kvs)) := sub_upd g2
    refine z (.ref t) (upd G2 t (.dK kvs)) (upd H2 t (.dK kvs)) ⟨fun b u e => ?_, x2.gro.trans s2, fun b u e => ?_, fun b u e n1 n2 => ?_, fun b e => ?_, tb_put x2.tab e2 (fun _ w => by cases w) dK_code (fun _ _ w => by cases w)⟩ (fun b e => ?_) (.dct upd_same (r2.mono s2))
    · by_cases hb : b = t
      · subst hb
        rw [upd_same] at e ⊢
        exact e
      · rw [upd_ne hb] at e ⊢
        exact x2.sub b u e
    · by_cases hb : b = t
      · subst hb
        exact .inr (.inl ht)
      · rw [upd_ne hb] at e
        rcases x2.new b u e with w | w | w
        · exact .inl w
        · rw [upd_ne hb] at w
          exact .inr (.inl w)
        · exact .inr (.inr w)
    · have hb : b ≠ t := ne_of_none e ht
      rw [upd_ne hb]
      exact x2.kee b u (by rw [upd_ne hb]; exact e) n1 n2
    · by_cases hb : b = t
      · rw [hb, upd_same] at e
        cases e
      · rw [upd_ne hb] at e
        have w := x2.fre b e
        rw [upd_ne hb] at w
        exact w
    · obtain ⟨w1, w2, w3⟩ := y2 b e
      exact ⟨by rw [upd_ne (pe b e)]; exact w1, by rw [upd_ne (pe b e)]; exact w2, s2 _ _ w3⟩
  · exact z.elim
end
end Pu
end

section
set_option maxHeartbeats 2000000
namespace Pu
open PySem PySem.Spec PyProof.Rows L2

/-! ### the pen -/
def penVal (k : Key) (q : Pen) : Option D :=
  if k = kCells then some (.lst (q.cells.map D.int)) else if k = kAt then some (.int q.at_) else if k = kDigits then some (.int q.digits) else if k = kCount then some (.int q.count) else if k = kFold then some (.int q.fold) else none
def penSet (k : Key) (i : Int) (q : Pen) : Option Pen :=
  if k = kAt then (if 0 ≤ i then some { q with at_ := i.toNat } else none) else if k = kDigits then some { q with digits := i } else if k = kCount then some { q with count := i } else if k = kFold then some { q with fold := i } else none
def mPenGet (k : Key) (m : EM) : EM := fun env p => (m env p).bind fun d q => match d with
  | .pen => (match penVal k q with
    | some z => .ok z q
    | none => .bad)
  | _ => .bad
def mPenPut (i : Nat) (k : Key) (m : EM) : SM := fun env p => (m env p).res env fun d q => match env[i]?, d with
  | some (.val .pen), .int n => (match penSet k n q with
    | some q' => .next env q'
    | none => .bad)
  | _, _ => .bad
theorem pen_keys : kCells ≠ kAt ∧ kCells ≠ kDigits ∧ kCells ≠ kCount ∧ kCells ≠ kFold ∧ kAt ≠ kDigits ∧ kAt ≠ kCount ∧ kAt ≠ kFold ∧ kDigits ≠ kCount ∧ kDigits ≠ kFold ∧ kCount ≠ kFold := by
  unfold kCells kAt kDigits kCount kFold
  decide
theorem val_cons {k k' : Key} {v : V} {kvs : List (Key × V)} : valV ((k', v) :: kvs) k = if k' = k then some v else valV kvs k := by
  unfold valV
  by_cases h : k' = k
  · rw [if_pos h, List.find?_cons_of_pos (by simpa using h)]
    rfl
  · rw [if_neg h, List.find?_cons_of_neg (by simpa using h)]
theorem penVal_ok {C : Ctx} {G H : Hp} {q : Pen} {k : Key} {z : D} {a : Addr} (y : PenAt C G H q) (hp : C.pa = some a) (e : penVal k q = some z) : ∃ v, valV (penKvs C.pl q) k = some v ∧ Rep C G v z := by
  obtain ⟨_, _, hl⟩ := y a hp
  obtain ⟨n1, n2, n3, n4, n5, n6, n7, n8, n9, n10⟩ := pen_keys
  unfold penVal at e
  unfold penKvs
  by_cases h1 : k = kCells
  · rw [if_pos h1] at e
    cases e
    exact ⟨_, by rw [val_cons, if_pos h1.symm], .lst hl (Reps.ints _)⟩
  rw [if_neg h1] at e
  by_cases h2 : k = kAt
  · rw [if_pos h2] at e
    cases e
    exact ⟨_, by rw [val_cons, if_neg (Ne.symm h1), val_cons, if_pos h2.symm], .int _⟩
  rw [if_neg h2] at e
  by_cases h3 : k = kDigits
  · rw [if_pos h3] at e
    cases e
    exact ⟨_, by rw [val_cons, if_neg (Ne.symm h1), val_cons, if_neg (Ne.symm h2), val_cons, if_pos h3.symm], .int _⟩
  rw [if_neg h3] at e
  by_cases h4 : k = kCount
  · rw [if_pos h4] at e
    cases e
    exact ⟨_, by rw [val_cons, if_neg (Ne.symm h1), val_cons, if_neg (Ne.symm h2), val_cons, if_neg (Ne.symm h3), val_cons, if_pos h4.symm], .int _⟩
  rw [if_neg h4] at e
  by_cases h5 : k = kFold
  · rw [if_pos h5] at e
    cases e
    exact ⟨_, by rw [val_cons, if_neg (Ne.symm h1), val_cons, if_neg (Ne.symm h2), val_cons, if_neg (Ne.symm h3), val_cons, if_neg (Ne.symm h4), val_cons, if_pos h5.symm], .int _⟩
  rw [if_neg h5] at e
  cases e
theorem penSet_ok {l : Addr} {q q' : Pen} {k : Key} {i : Int} (e : penSet k i q = some q') : putK (penKvs l q) k (.int i) = penKvs l q' ∧ q'.cells = q.cells := by
  obtain ⟨n1, n2, n3, n4, n5, n6, n7, n8, n9, n10⟩ := pen_keys
  unfold penSet at e
  unfold penKvs putK
  by_cases h2 : k = kAt
  · rw [if_pos h2] at e
    split at e
    · rename_i h
      cases e
      subst h2
      have e2 : ((i.toNat : Nat) : Int) = i := Int.toNat_of_nonneg h
      simp only [List.any_cons, List.map_cons, List.map_nil, n1, Ne.symm n1, n2, n3, n4, n5, Ne.symm n5, n6, Ne.symm n6, n7, Ne.symm n7, e2, decide_true, Bool.true_or, Bool.or_true, if_true, if_false, decide_false, Bool.false_or, and_self]
    · cases e
  rw [if_neg h2] at e
  by_cases h3 : k = kDigits
  · rw [if_pos h3] at e
    cases e
    subst h3
    simp [n2, n5, n8, Ne.symm n8, n9, Ne.symm n9, Ne.symm n5, Ne.symm n2]
  rw [if_neg h3] at e
  by_cases h4 : k = kCount
  · rw [if_pos h4] at e
    cases e
    subst h4
    simp [n3, n6, n8, n10, Ne.symm n10]
  rw [if_neg h4] at e
  by_cases h5 : k = kFold
  · rw [if_pos h5] at e
    cases e
    subst h5
    simp [n4, n7, n9, n10]
  rw [if_neg h5] at e
  cases e
section
variable {C : Ctx} {G0 H0 G H : Hp} {σ : St} {env : Env} {q q' : Pen}
theorem SOk.penPut (S : SOk C G0 H0 G H σ env q) {a : Addr} (hp : C.pa = some a) (hc : q'.cells = q.cells) : SOk C G0 H0 G (upd H a (.dK (penKvs C.pl q'))) σ env q' := by
  obtain ⟨g, h, hl⟩ := S.l.pen a hp
  have tab : Tb C (upd H a (.dK (penKvs C.pl q'))) := tb_put S.l.tab h (fun _ z => by cases z) dK_code fun _ _ z => by cases z
  have sub : Sub G (upd H a (.dK (penKvs C.pl q'))) := fun b o e => by
    rw [upd_ne (ne_of_none e g)]
    exact S.l.sub b o e
  refine ⟨⟨sub, tab, fun b e => ?_, S.l.len, fun j x s h1 h2 => ?_, S.l.dis, S.l.nt⟩, ⟨sub, S.x.gro, S.x.new, fun b o e n1 n2 => ?_, fun b e => ?_, tab⟩, S.f⟩
  · rw [hp] at e
    cases e
    exact ⟨g, upd_same, by rw [hc]; exact hl⟩
  · have z := S.l.slot j x s h1 h2
    cases z with
    | un => exact .un _
    | val r => exact .val r
    | own h n r => exact .own (by rw [upd_ne (ne_of h ‹H a = _› (by intro w; cases w))]; exact h) n r
  · have nb : b ≠ a := fun z => n1 (by rw [hp, z])
    rw [upd_ne nb]
    exact S.x.kee b o e n1 n2
  · by_cases nb : b = a
    · rw [nb, upd_same] at e
      cases e
    · rw [upd_ne nb] at e
      exact S.x.fre b e
end
section
variable {X : Cx} {C : Ctx} {W : WX} {m : EM} {e : Expr} {x z : Str} {pos p p' p2 : Pos} {j : Int}
/-- pen['k'] -/
theorem pm_penGet (hu : X.A.units + 64 < cLine) (h : PE X e (rE C W m)) {jj} : PE X (.Subscript e (.Constant (.str z) jj p) pos) (rE C W (mPenGet (.inr z) m)) := (pe_dget (by omega) h pe_str (fun _ _ => rfl)).of fun σ H Q ⟨G, env, p, L, o⟩ => by
  refine ⟨G, env, p, L, o.bind.imp (fun d q z v G1 H1 x1 y1 r1 => ?_) fun _ _ z => z⟩
  split at z
  · cases ev : penVal (.inr ‹Str›) q with
    | none =>
      rw [ev] at z
      exact z.elim
    | some w =>
      rw [ev] at z
      cases r1 with
      | @pen a hp =>
        obtain ⟨_, hH, _⟩ := y1 a hp
        obtain ⟨v, k1, k2⟩ := penVal_ok y1 hp ev
        exact ⟨a, v, rfl, .inl ⟨_, _, .inl hH, rfl, k1.symm⟩, z v G1 H1 x1 y1 k2⟩
  · exact z.elim
/-- pen['k'] = e, pen a name -/
theorem sm_penPut (i : Nat) (hu : X.A.units + 64 < cLine) (h : PE X e (rE C W m)) {jj} (hN : X.N[i]? = some x := by rfl) (hv : Vis X.env.scope x := by first | exact Or.inl rfl | exact Or.inr (Or.inl rfl) | exact Or.inr (Or.inr rfl)) (hd : (x == ("__debug__" : Str)) = false := by decide)
    (hcd : (x == ("__classdict__" : Str)) = false := by decide) (hs : swapsWith e (some (.Subscript (.Name x p) (.Constant (.str z) jj p2) p')) pos.line X.env = pure false := by rfl) :
    PS X (.Assign [.Subscript (.Name x p) (.Constant (.str z) jj p2) p'] e pos) (rS C W (mPenPut i (.inr z) m)) := (ps_dput (by omega) (pe_var hN hv hd hcd) pe_str h hs).of fun D σ H ⟨G0, H0, G, env, p, S, o⟩ => by
  refine ⟨G, env, p, S.l, (o.out S).imp (fun d q w v G1 H1 x1 y1 r1 => ?_) fun _ _ z => z⟩
  have S1 := S.step x1 y1
  split at w
  · rename_i n hi
    cases es : penSet (.inr z) n q with
    | none =>
      rw [es] at w
      exact w.elim
    | some q' =>
      rw [es] at w
      obtain ⟨u, k1, k2⟩ := S1.l.val hi
      cases k2 with
      | @pen a hp =>
        cases r1
        obtain ⟨_, hH, _⟩ := y1 a hp
        obtain ⟨e1, e2⟩ := penSet_ok (l := C.pl) es
        refine ⟨_, k1, a, _, rfl, .inl ⟨_, .inr z, hH, rfl, ?_, rfl⟩, ?_⟩
        · show 5 < sizeLine
          rw [sizeLine_eq]
          omega
        · rw [e1]
          exact w σ G1 _ (S1.penPut hp e2) x1.gro
  · exact w.elim
end
end Pu
end

section
set_option maxHeartbeats 2000000
namespace Pu
open PySem PySem.Spec PyProof.Rows L2

/-! ### the law's own def -/
def Ctx.withPen (C : Ctx) (a l : Addr) : Ctx := { C with pa := some a, pl := l }
def penDs (q : Pen) : List (Key × D) := [(kCells, .lst (q.cells.map D.int)), (kAt, .int q.at_), (kDigits, .int q.digits), (kCount, .int q.count), (kFold, .int q.fold)]
/-- all that is frozen at the start -/
def fz (H : Hp) : Hp := fun b => match H b with
  | some (.frz o u) => some (.frz o u)
  | _ => none
theorem fz_sub (H : Hp) : Sub (fz H) H := fun b o e => by
  unfold fz at e
  split at e
  · rename_i o' u h
    rw [h]
    exact e
  · cases e
theorem fz_sql {K : PySem.W.Frag} {H : Hp} {a : Addr} {xs : List V} (n : ∀ ys, H a ≠ some (.lst ys)) (h : SqL K H a xs) : SqL K (fz H) a xs := by
  rcases h with (h | ⟨o, h⟩) | h
  · exact absurd h (n _)
  · refine .inl (.inr ⟨o, ?_⟩)
    unfold fz
    rw [h]
  · exact .inr h
theorem fz_nt {C : Ctx} {H : Hp} (t : Tb C H) : NT C (fz H) := fun p hp => by
  obtain ⟨_, k, _⟩ := t.tabs p hp
  unfold fz
  rw [k]
def emptyPen : Pen := ⟨[], 0, 0, 0, 0⟩
/-- the slots behind pen = _law_pen(script) -/
def envL (n ip : Nat) : Env := (List.replicate n Slot.un).set ip (.val .pen)
/-- called with a script, it says True -/
def spLaw (C : Ctx) (ok : List Int → Prop) : Sp := fun vs H Q _ => ∃ a ns, vs = [.ref a] ∧ SqL C.K H a (ns.map V.int) ∧ (∀ ys, H a ≠ some (.lst ys)) ∧ ok ns ∧ Tb C H ∧ ∀ H', Q (.bl true) H'
theorem repK_pen {C : Ctx} {G : Hp} {kvs : List (Key × V)} {q : Pen} (r : RepK C G kvs (penDs q)) : ∃ l, kvs = penKvs l q ∧ G l = some (.lst (q.cells.map V.int)) := by
  unfold penDs at r
  cases r with
  | cons r1 t =>
    cases t with
    | cons r2 t =>
      cases t with
      | cons r3 t =>
        cases t with
        | cons r4 t =>
          cases t with
          | cons r5 t =>
            cases t
            cases r2
            cases r3
            cases r4
            cases r5
            cases r1 with
            | @lst l vs _ h rs =>
              have e := rs.of_ints
              subst e
              exact ⟨l, rfl, h⟩
/-- the context behind the pen's making -/
theorem pen_start {C : Ctx} {G H : Hp} {σ : St} {n ip : Nat} {v : V} {q : Pen} (S : LOk C G H σ (((env0 n [.scr ns])).set ip (.val (.dct (penDs q)))) emptyPen) (hip : ip < n) (h1 : 1 ≤ n) : ∃ a l G', SOk (C.withPen a l) G' H G' H σ (envL n ip) q := by
  have he : (((env0 n [.scr ns])).set ip (.val (.dct (penDs q))))[ip]? = some (.val (.dct (penDs q))) := by
    rw [List.getElem?_set_self]
    unfold env0
    rw [List.length_append, List.length_map, List.length_replicate, List.length_singleton]
    omega
  obtain ⟨w, k1, k2⟩ := S.val he
  cases k2 with
  | @dct a kvs _ h r =>
    obtain ⟨l, rfl, hl⟩ := repK_pen r
    have nl : l ≠ a := fun z => by
      rw [z, h] at hl
      cases hl
    let G' : Hp := fun b => if b = a then none else G b
    have sub : Sub G' H := fun b o e => by
      by_cases hb : b = a
      · rw [show G' b = none from if_pos hb] at e
        cases e
      · rw [show G' b = G b from if_neg hb] at e
        exact S.sub b o e
    have tab : Tb (C.withPen a l) H := ⟨S.tab.tabs, S.tab.sm, S.tab.co⟩
    have pen : PenAt (C.withPen a l) G' H q := fun b e => by
      cases e
      exact ⟨if_pos rfl, S.sub _ _ h, (if_neg nl).trans hl⟩
    have len : σ.length = (envL n ip).length := by
      rw [S.len]
      unfold envL env0
      rw [List.length_set, List.length_append, List.length_map, List.length_replicate, List.length_singleton, List.length_set, List.length_replicate]
      omega
    have no : ∀ (i : Nat) (ds : List D), (envL n ip)[i]? ≠ some (.own ds) := fun i ds e => by
      unfold envL at e
      rcases set_at e with ⟨_, z⟩ | ⟨_, z⟩
      · cases z
      · rw [List.getElem?_replicate] at z
        split at z <;> cases z
    refine ⟨a, l, G', ⟨⟨sub, tab, pen, len, fun i x s e1 e2 => ?_, fun i j ds es b e1 _ _ _ => absurd e1 (no i ds), fun p hp => ?_⟩, Ext.refl sub tab, fun i ds b e _ => absurd e (no i ds)⟩⟩
    · unfold envL at e2
      rcases set_at e2 with ⟨z1, z2⟩ | ⟨_, z⟩
      · subst z1 z2
        rw [k1] at e1
        cases e1
        exact .val (.pen rfl)
      · rw [List.getElem?_replicate] at z
        split at z
        · cases z
          exact .un _
        · cases z
    · show (if p.1 = a then none else G p.1) = none
      split
      · rfl
      · exact S.nt p hp
theorem fn_law {C : Ctx} {P : Program} {w : World} {base : Heap} {k ip : Nat} {f : Addr} {name qual : Str} {params : Arguments} {st : Stmt} {rest : List Stmt} {scope : Scope} {dV kV doc pm cdv ct oc : Value} {an od : Option Addr}
    {osl : Array (Option Value)} {N : List Str} {x : Str} {m1 m2 : SM} {ok : List Int → Prop} {pen0 : List Int → Pen} (lk : C.K.lookup f = some ⟨oc, od, .func (PySem.W.fnOf name qual params (st :: rest) scope dV kV doc pm an cdv ct), osl⟩) (hcd : PySem.W.codeIn C.K cdv qual = true) (S : FnScope N [x] scope) (hx : C.ex = none) (hp : C.pa = none) (hip : ip < N.length) (h1 : 1 ≤ N.length)
    (hb1 : ∀ (A : Around) (outer : List PySem.Env) (s : Shared) (H : Hp) (E : XK), Wk (cxOf (L2.CX P w) P w C.K C.mg base N qual scope f cdv A outer s H E) C (fun cls d _ H => E cls d H) true k → PS (cxOf (L2.CX P w) P w C.K C.mg base N qual scope f cdv A outer s H E) st (rS C (fun cls d _ H => E cls d H) m1))
    (hb2 : ∀ (a l : Addr) (A : Around) (outer : List PySem.Env) (s : Shared) (H : Hp) (E : XK), Wk (cxOf (L2.CX P w) P w C.K C.mg base N qual scope f cdv A outer s H E) (C.withPen a l) (fun cls d _ H => E cls d H) true k → PSs (cxOf (L2.CX P w) P w C.K C.mg base N qual scope f cdv A outer s H E) rest (rS (C.withPen a l) (fun cls d _ H => E cls d H) m2))
    (hm1 : ∀ ns, ok ns → m1 (env0 N.length [.scr ns]) emptyPen = .next ((env0 N.length [.scr ns]).set ip (.val (.dct (penDs (pen0 ns))))) emptyPen)
    (hm2 : ∀ ns, ok ns → ∃ q, m2 (envL N.length ip) (pen0 ns) = .ret (.bl true) q) :
    FnA true P w C.K C.mg base (L2.CX P w) (k + 1) f (PySem.W.fnOf name qual params (st :: rest) scope dV kV doc pm an cdv ct) [x] (spLaw C ok) := by
  refine ⟨fun vs H Q E ⟨a, ns, h, _⟩ => by rw [h]; rfl, fun A outer s H args us vs Q E hr hg e0 hbi r hsp => ?_⟩
  obtain ⟨a, ns, rfl, hq, hn, hok, ht, hQ⟩ := hsp
  refine LamX.run_ofS (CX := L2.CX P w) lk hcd S hr e0 hbi r rfl fun room => ?_
  have wk : Wk (cxOf (L2.CX P w) P w C.K C.mg base N qual scope f cdv A outer s H E) C (fun cls d _ H => E cls d H) true k := ⟨rfl, rfl, room, hg, takes_of rfl rfl rfl rfl, hx⟩
  have wk2 : ∀ a l, Wk (cxOf (L2.CX P w) P w C.K C.mg base N qual scope f cdv A outer s H E) (C.withPen a l) (fun cls d _ H => E cls d H) true k := fun a l => ⟨rfl, rfl, room, hg, takes_of rfl rfl rfl rfl, hx⟩
  have two : PSs (cxOf (L2.CX P w) P w C.K C.mg base N qual scope f cdv A outer s H E) rest (fun D σ H1 => ∃ a l, rS (C.withPen a l) (fun cls d _ H => E cls d H) m2 D σ H1) := ⟨fun pins s1 σ H1 D I ⟨a, l, h⟩ => (hb2 a l A outer s H E (wk2 a l)).run pins s1 σ H1 D I h⟩
  refine ⟨_, pss_cons (hb1 A outer s H E wk) two, fz H, H, fz H, env0 N.length [.scr ns], emptyPen, start_sok (vs := [V.ref a]) (fz_sub H) ht (fz_nt ht) (PenAt.none hp) (Reps.one (.scr (fz_sql hn hq))), ?_⟩
  rw [hm1 ns hok]
  intro σ' G' H' S' _
  obtain ⟨pa, pl, G2, S2⟩ := pen_start (v := .non) S'.l hip h1
  refine ⟨pa, pl, G2, H', G2, _, _, S2, ?_⟩
  obtain ⟨q, hq2⟩ := hm2 ns hok
  rw [hq2]
  intro v G3 H3 _ _ rv
  cases rv
  exact hQ H3
end Pu
end

section
set_option maxHeartbeats 2000000
namespace Pu
open PySem PySem.Spec PyProof.Rows L2

/-! ### what the head tells of the written part -/
structure Fx (fa : List He.Fa) (fn : List He.DefD) (ex : PySem.W.Frag → Bool) (K : PySem.W.Frag) (mg : Str → Option Value) : Prop where
  hp : ∃ h : Heap, K.In h ∧ h.Ns mainGlobals mg
  says : He.SaysD fa fn K
  more : ex K = true
section
variable {fa : List He.Fa} {fn : List He.DefD} {ex : PySem.W.Frag → Bool} {K : PySem.W.Frag} {mg : Str → Option Value}
theorem Fx.glo (h : Fx fa fn ex K mg) (i : Nat) {x : Str} (e : fa[i]? = some (.glo x) := by rfl) : mg x = some (.ref (He.ga K x)) := by
  obtain ⟨hp, X, G⟩ := h.hp
  exact He.glo_ok X G (h.says.fact i e)
theorem Fx.free (h : Fx fa fn ex K mg) (i : Nat) {x : Str} (e : fa[i]? = some (.free x) := by rfl) : mg x = none := by
  obtain ⟨hp, X, G⟩ := h.hp
  exact He.free_ok X G (h.says.fact i e)
theorem Fx.int (h : Fx fa fn ex K mg) (i : Nat) {x : Str} {n : Int} (e : fa[i]? = some (.int x n) := by rfl) : ∃ t, mg x = some (.int n t) := by
  obtain ⟨hp, X, G⟩ := h.hp
  exact He.int_ok X G (h.says.fact i e)
end
/-- a def by the head's word -/
theorem fn_of {C : Ctx} {P : Program} {w : World} {base : Heap} {k : Nat} {x qual : Str} {params : Arguments} {body : List Stmt} {scope : Scope} {f : Addr} {fd : FuncData} {N ps : List Str} {m : SM} (F : FunD C.K x qual params body scope [] [] f fd) (hm : C.mg x = some (.ref f)) (S : FnScope N ps scope) (hx : C.ex = none) (hb : Binds C.K fd ps [])
    (h : ∀ cdv, Body true C P w base N qual scope f cdv k body m) : Fn C P w base true x (k + 1) ps.length (mDef N.length m) := by
  have kp := F.kp
  obtain ⟨oc, od, dV, kV, doc, pm, an, cdv, ct, osl, rfl, lk, hcd, _, _⟩ := F.ex
  exact ⟨f, _, ps, hm, kp, hb, rfl, fn_pu lk hcd S hx (h cdv)⟩
/-- one called where an error is handled -/
theorem fnX_of {C : Ctx} {P : Program} {w : World} {base : Heap} {k : Nat} {x qual : Str} {params : Arguments} {body : List Stmt} {scope : Scope} {f : Addr} {fd : FuncData} {N ps : List Str} {m : SM} (F : FunD C.K x qual params body scope [] [] f fd) (hm : C.mg x = some (.ref f)) (S : FnScope N ps scope) (hb : Binds C.K fd ps [])
    (h : ∀ (cdv : Value) (A : Around) (outer : List PySem.Env) (s : Shared) (H : Hp) (E : XK) (p : Addr × Obj), Wh (L2H.cxH (L2.CX P w) P w C.K C.mg base N qual scope f cdv A outer s H E p) C k → PSs (L2H.cxH (L2.CX P w) P w C.K C.mg base N qual scope f cdv A outer s H E p) body (rS C W0 m)) : FnX C P w base x (k + 1) ps.length (mDefQ N.length m) := by
  have kp := F.kp
  obtain ⟨oc, od, dV, kV, doc, pm, an, cdv, ct, osl, rfl, lk, hcd, _, _⟩ := F.ex
  exact ⟨f, _, ps, hm, kp, hb, rfl, fn_hot lk hcd S (h cdv)⟩
/-- the law's own def -/
theorem law_of {C : Ctx} {P : Program} {w : World} {base : Heap} {k ip : Nat} {x y qual : Str} {params : Arguments} {st : Stmt} {rest : List Stmt} {scope : Scope} {f : Addr} {fd : FuncData} {N : List Str} {m1 m2 : SM} {ok : List Int → Prop} {pen0 : List Int → Pen} (F : FunD C.K x qual params (st :: rest) scope [] [] f fd) (S : FnScope N [y] scope) (hx : C.ex = none) (hp : C.pa = none) (hip : ip < N.length) (h1 : 1 ≤ N.length)
    (hb1 : ∀ (cdv : Value) (A : Around) (outer : List PySem.Env) (s : Shared) (H : Hp) (E : XK), Wk (cxOf (L2.CX P w) P w C.K C.mg base N qual scope f cdv A outer s H E) C (fun cls d _ H => E cls d H) true k → PS (cxOf (L2.CX P w) P w C.K C.mg base N qual scope f cdv A outer s H E) st (rS C (fun cls d _ H => E cls d H) m1))
    (hb2 : ∀ (cdv : Value) (a l : Addr) (A : Around) (outer : List PySem.Env) (s : Shared) (H : Hp) (E : XK), Wk (cxOf (L2.CX P w) P w C.K C.mg base N qual scope f cdv A outer s H E) (C.withPen a l) (fun cls d _ H => E cls d H) true k → PSs (cxOf (L2.CX P w) P w C.K C.mg base N qual scope f cdv A outer s H E) rest (rS (C.withPen a l) (fun cls d _ H => E cls d H) m2))
    (hm1 : ∀ ns, ok ns → m1 (env0 N.length [.scr ns]) emptyPen = .next ((env0 N.length [.scr ns]).set ip (.val (.dct (penDs (pen0 ns))))) emptyPen)
    (hm2 : ∀ ns, ok ns → ∃ q, m2 (envL N.length ip) (pen0 ns) = .ret (.bl true) q) : FnA true P w C.K C.mg base (L2.CX P w) (k + 1) f fd [y] (spLaw C ok) := by
  obtain ⟨oc, od, dV, kV, doc, pm, an, cdv, ct, osl, rfl, lk, hcd, _, _⟩ := F.ex
  exact fn_law lk hcd S hx hp hip h1 (hb1 cdv) (hb2 cdv) hm1 hm2

/-! ### exceptions by the head's word -/
def exB (K : PySem.W.Frag) (x : Str) (ns : List Str) : Bool := oexB K (He.ga K x) && (ns.all (fun f => He.eqO (PySem.W.findIn K (.ref (He.ga K x)) f) (some none)) && (He.eqO (PySem.W.findIn K (.ref (He.ga K x)) "__init__") (some (some (.ref (He.ma K (He.ga K x) "__init__")))) && decide (PySem.W.typeIn K (.ref (He.ma K (He.ga K x) "__init__")) = some (.type "function"))))
theorem excD_of {C : Ctx} {P : Program} {w : World} {base : Heap} {k : Nat} {x : Str} {ns : List Str} {fd : FuncData} (h : exB C.K x ns = true) (hm : C.mg x = some (.ref (He.ga C.K x))) (hb : Binds C.K fd ("self" :: ns) []) (F : FnOk P w C.K C.mg base CX0 k (He.ma C.K (He.ga C.K x) "__init__") fd ("self" :: ns) (spI C.K (He.ga C.K x) ns)) : ExcD C P w base x ns k := by
  unfold exB at h
  rw [Bool.and_eq_true, Bool.and_eq_true, Bool.and_eq_true, decide_eq_true_eq] at h
  exact ⟨_, _, fd, hm, oexB_ok h.1, fun f hf => He.eqO_ok (List.all_eq_true.mp h.2.1 f hf), He.eqO_ok h.2.2.1, h.2.2.2, hb, F⟩
theorem excN_of {fa : List He.Fa} {fn : List He.DefD} {ex : PySem.W.Frag → Bool} {C : Ctx} {x : Str} (h : Fx fa fn ex C.K C.mg) (hm : C.mg x = some (.ref (He.ga C.K x))) (i : Nat) (e : fa[i]? = some (.exc x) := by rfl) : ExcN C x := by
  obtain ⟨h1, h2, h3, h4⟩ := He.exc_ok (h.says.fact i e)
  exact ⟨_, hm, h1, h2, h3, h4⟩

/-! ### isinstance by tables -/
def baseTags : List String := ["NoneType", "bool", "int", "str", "tuple", "list", "dict"]
def askT (cl : List Str) (tys : List String) (sub : Str → Str → Bool) (isT : Str → String → Bool) : Ask := fun t k => match t, k with
  | .inl a, .ty b => kitB a b
  | .inl a, .fn c => if c ∈ cl ∧ a ∈ baseTags then some false else none
  | .inr c, .ty b => if c ∈ cl ∧ b ∈ tys then some (isT c b) else none
  | .inr c, .fn c' => if c ∈ cl ∧ c' ∈ cl then some (sub c c') else none
  | _, _ => none
def askB (K : PySem.W.Frag) (cl : List Str) (tys : List String) (sub : Str → Str → Bool) (isT : Str → String → Bool) : Bool :=
  (cl.all fun c => baseTags.all fun a => decide (PySem.W.kitOne K (.type a) (.ref (He.ga K c)) = some false)) && ((cl.all fun c => tys.all fun b => decide (PySem.W.kitOne K (.ref (He.ga K c)) (.type b) = some (isT c b))) &&
    cl.all fun c => cl.all fun c' => decide (PySem.W.kitOne K (.ref (He.ga K c)) (.ref (He.ga K c')) = some (sub c c')))
theorem askT_c {cl : List Str} {tys : List String} {sub : Str → Str → Bool} {isT : Str → String → Bool} : AskC (askT cl tys sub isT) := fun t k b e => by
  unfold askT at e
  split at e
  · exact .inl ⟨_, rfl⟩
  · exact .inr ⟨_, rfl⟩
  · exact .inl ⟨_, rfl⟩
  · exact .inr ⟨_, rfl⟩
  · cases e
theorem askT_ok {C : Ctx} {cl : List Str} {tys : List String} {sub : Str → Str → Bool} {isT : Str → String → Bool} (h : askB C.K cl tys sub isT = true) (hm : ∀ c ∈ cl, C.mg c = some (.ref (He.ga C.K c))) : AskOk C (askT cl tys sub isT) := by
  unfold askB at h
  rw [Bool.and_eq_true, Bool.and_eq_true] at h
  obtain ⟨h1, h2, h3⟩ := h
  have at_ : ∀ {c cA}, c ∈ cl → C.mg c = some (.ref cA) → cA = He.ga C.K c := fun {c cA} hc e => by
    rw [hm c hc] at e
    cases e
    rfl
  refine ⟨fun t k b e tv ht v u hu => ?_⟩
  unfold askT at e
  split at e
  · cases ht
    cases hu
    exact kit_ty e
  · split at e
    · rename_i hc
      cases e
      cases ht
      cases hu with
      | own m =>
        rw [at_ hc.1 m]
        exact of_decide_eq_true (List.all_eq_true.mp (List.all_eq_true.mp h1 _ hc.1) _ hc.2)
    · cases e
  · split at e
    · rename_i hc
      cases e
      cases hu
      cases ht with
      | own m =>
        rw [at_ hc.1 m]
        exact of_decide_eq_true (List.all_eq_true.mp (List.all_eq_true.mp h2 _ hc.1) _ hc.2)
    · cases e
  · split at e
    · rename_i hc
      cases e
      cases ht with
      | own m =>
        cases hu with
        | own m2 =>
          rw [at_ hc.1 m, at_ hc.2 m2]
          exact of_decide_eq_true (List.all_eq_true.mp (List.all_eq_true.mp h3 _ hc.1) _ hc.2)
    · cases e
  · cases e
end Pu
end

section
set_option maxHeartbeats 2000000
namespace Pu
open PySem PySem.Spec PyProof.Rows L2

/-! ### a lambda handed to a def that calls it -/
def Ctx.clos (C : Ctx) (v : Addr × Addr × Str × Hp) : Ctx := { C with cl := some v }
/-- the def's own view of what it was given -/
abbrev gCx (X : Cx) (Ng : List Str) (qg : Str) (sg : Scope) (g : Addr) (cdg : Value) (s : Shared) (H : Hp) : Cx := cxOf C8.CX0 X.prog X.w X.K X.mg X.base Ng qg sg g cdg X.A X.stack s H C8.E0
section
variable {X : Cx} {pins : List (Addr × Obj)} {σ : St} {H : Hp} {s : Shared}
/-- x(), x the def's parameter: the lambda's body runs over the maker's slots; an error is wished for as the def wishes at its own slots -/
theorem act_clo {Ng : List Str} {qg nm : Str} {sg : Scope} {g f cl : Addr} {cdg pm ct : Value} {ps : Arguments} {body : Expr} {sc : Scope} {k i : Nat} {a : Str} {pn : List (Addr × Obj)} {xe : Value → Shared → Prop} {W : WX} {tb : XK → TE} {p1 p2 : Pos} (I : Inv X pins σ H s) (L : LamX.LamS X.env.scope sc) (nmE : nm = X.env.qual ++ "<lambda>")
    (ho : s.heap.get? f = some (PySem.W.kla_obj "<lambda>" nm ps body sc (cloFrom X.env.cells sc.names []) pm cl ct)) (hn : H f = none) (hs : f ∉ frs X.stack) (bind : bindArgs (PySem.W.kla_fn "<lambda>" nm ps body sc (cloFrom X.env.cells sc.names []) pm (.ref cl) ct) ⟨[], []⟩ = pure [])
    (tk : Takes ((gCx X Ng qg sg g cdg s H).tr pn xe) W) (room : Room (k + 1) (X.A.deeper (envOfC qg sg s.heap.objs.size g cdg)))
    (hb : ∀ (E : XK) (A : Around) (outer : List PySem.Env) (s2 : Shared) (H2 : Hp), Room k (A.deeper (LamX.lamEnv X sc s2.heap.objs.size f cl)) → A.guards = X.A.guards → PE (LamX.lamCx X A outer s2 H2 E sc f cl) body (tb E))
    (hN : Ng[i]? = some a) (hv : Vis sg a) (n1 : (a == ("__debug__" : Str)) = false := by decide) (n2 : (a == ("__classdict__" : Str)) = false := by decide) :
    PE ((gCx X Ng qg sg g cdg s H).tr pn xe) (.Call (.Name a p1) [] [] p2) (fun σZ HZ Q => σZ[i]? = some (some (.ref f)) ∧ (HZ cl = some (LamX.CodeO cl nm) ∧ tb (fun cls dd H' => W cls dd σZ H') σ HZ Q)) := by
  subst nmE
  refine ⟨fun pinsZ sZ σZ HZ Q IZ h => ?_⟩
  obtain ⟨h1, h2, h3⟩ := h
  have var := (pe_var (X := (gCx X Ng qg sg g cdg s H).tr pn xe) (pos := p1) (i := i) hN hv n1 n2).run pinsZ sZ σZ HZ (fun v H1 => v = .ref f ∧ H1 = HZ) IZ ⟨_, h1, rfl, rfl⟩
  refine wpAny_Call_Name_kw (thn var fun u z ⟨v, H1, J, rv, e1, e2⟩ => ?_)
  subst e1
  rw [e2] at J
  obtain rfl : u = Value.ref f := rv
  have there : z.heap.get? f = some (PySem.W.kla_obj "<lambda>" (X.env.qual ++ "<lambda>") ps body sc (cloFrom X.env.cells sc.names []) pm cl ct) := J.base.keep f _ ho hn hs fun q => nomatch (show f ∈ ([] : List Addr) from q)
  refine PySem.W.callWith_F0 ⟨_, _, _, _, there⟩ ?_
  have un : Un (frs X.stack) [] H HZ s.heap z.heap := J.base
  obtain ⟨⟨oc, us, t, k1, k2, k3⟩, _, _⟩ := J.hok cl _ h2
  let E : XK := fun cls dd H' => W cls dd σZ H'
  have goes : codeAny (model X.prog X.w) (X.A.deeper (envOfC qg sg s.heap.objs.size g cdg)) (.call (.ref f) ⟨[], []⟩) (CR (L2.CX X.prog X.w) (envOfC qg sg s.heap.objs.size g cdg :: X.stack) X.prog X.w HZ z Q E) z := by
    refine PySem.W.kla_callFunE room.depth there rfl L.co L.gen rfl ⟨cl, oc, us, t, rfl, k1, k2, k3⟩ ?_
    rw [bind]
    refine wpAny_pure (wpAny_newFunctionEnv (fun y hy => (L.own y hy).2) (fun y hy => absurd hy List.not_mem_nil) (fun h1 ns sb => ⟨J.nolimit.fresh _ sb, ?_⟩) L.kind)
    have kp : ∀ b o, z.heap.get? b = some o → h1.get? b = some o := fun b o e => sb.extBut b o (Nat.ne_of_lt (Heap.lt_size e)) (Heap.get?_push_of_some _ e)
    have J2 := LamX.lam_start2 (A := X.A.deeper (envOfC qg sg s.heap.objs.size g cdg)) (outer := envOfC qg sg s.heap.objs.size g cdg :: X.stack) (E := E) (f := f) (c' := cl) (tk := z.toks + ([] : List (Str × Value)).length) I L J.env0 room.hd un ns kp
    refine PySem.W.kla_codeExpr (wpAny_mono ((hb E _ _ z HZ (room.deeper _) rfl).run [] _ _ HZ Q J2 h3) (fun v z2 q => ?_) fun _ _ q => q)
    obtain ⟨w', H', J', rv2, q2⟩ := q
    exact ⟨w', H', J'.os, J'.bare, J'.base, J'.hok, rv2, q2⟩
  refine wpAny_call (codeAny_mono goes fun res z2 q => ?_)
  cases res with
  | error er => exact tk er z2 (XE.of_call J (fun cls dd H2 h => h) q)
  | ok fl => cases fl with
    | ret u => exact J.after q
    | next => exact q.elim
    | brk => exact q.elim
    | cont => exact q.elim
end
end Pu
end

section
set_option maxHeartbeats 2000000
namespace Pu
open PySem PySem.Spec PyProof.Rows L2

/-! ### a lambda made -/
/-- the heap behind it: but for the table nothing old has changed -/
structure Made (T : List (Addr × Str)) (nm : Str) (P : Addr) (H H1 : Hp) (f cl : Addr) : Prop where
  kee : ∀ b o, H b = some o → b ≠ P → H1 b = some o
  tbl : ∃ ps, H P = some (.tbl ps)
  fre : ∀ b, H1 b = none → H b = none
  tab : LamX.Tabs T H1
  fn : H1 f = none
  co : H1 cl = some (LamX.CodeO cl nm)
section
variable {X : Cx} {pins : List (Addr × Obj)} {σ : St} {H : Hp} {s : Shared}
theorem lam_new {T : List (Addr × Str)} {c P : Addr} {nm : Str} {ps : Arguments} {body : Expr} {sc : Scope} {pos : Pos} {E Q : Value → Shared → Prop} (nmE : nm = X.env.qual ++ "<lambda>") (I : Inv X pins σ H s) (TB : LamX.TabB X.base X.mg c P) (hcode : X.env.code = .ref c) (hm : (P, nm) ∈ T) (hu : ∀ p ∈ T, p.1 = P → p.2 = nm) (hT : LamX.Tabs T H)
    (hdef : defaultsOf ps X.env = ([], [])) (hfree : ∀ y ∈ sc.names, y.2 = .free → ∃ c, X.env.cells.lookup y.1 = some c)
    (h : ∀ (f cl : Addr) (pm ct : Value) (H1 : Hp) (z : Shared), Inv X pins σ H1 z → Made T nm P H H1 f cl → z.heap.get? f = some (PySem.W.kla_obj "<lambda>" nm ps body sc (cloFrom X.env.cells sc.names []) pm cl ct) → f ∉ frs X.stack → Q (.ref f) z) : wpAny (model X.prog X.w) X.A (eval (.Lambda ps body sc pos) X.env) Q E s := by
  subst nmE
  obtain ⟨tb, hP, ht, ha⟩ := hT _ hm
  have oP : s.heap.get? P = some { cls := .none, data := .fields tb } := I.hok P _ hP
  have out : ∀ b, s.heap.objs.size ≤ b → b ∉ frs X.stack := fun b hb m => (List.mem_cons.mp (I.stkSub _ m)).elim (fun e => absurd (Nat.lt_of_lt_of_le (e ▸ I.lt) hb) (Nat.lt_irrefl _)) (I.nofs hb)
  refine PySem.W.kla_eval hdef ?_
  cases hc : codeAmong pos tb.toList with
  | some cv =>
    obtain ⟨cl, rfl, hco⟩ := ha pos cv hc
    refine PySem.W.kla_makeFunctionHit (mg := X.mg) (closure_ok hfree) I.ok.glob (I.mod.glob.keeps I.bk) hcode (TB.code.keeps I.bk) oP ht hc (TB.bm.keeps I.bk) fun ct h' tk hx sz => ?_
    exact h _ cl _ ct H _ (I.kept fun b o e => Heap.get?_push_of_some _ (hx b o e)) ⟨fun _ _ e _ => e, ⟨tb, hP⟩, fun _ e => e, hT, I.hok.fresh sz, hco⟩ (Heap.get?_push_size _ rfl) (out _ sz)
  | none =>
    refine PySem.W.kla_makeFunction (mg := X.mg) (closure_ok hfree) I.ok.glob (I.mod.glob.keeps I.bk) hcode (TB.code.keeps I.bk) oP ht hc TB.gP (TB.bm.keeps I.bk) fun cl ct h' tk hx hge hlt hrec htb => ?_
    obtain ⟨cl2, oc, us, t, e1, e2, e3, e4⟩ := hrec
    cases e1
    have nC : H cl = none := I.hok.fresh hge
    have nPC : P ≠ cl := ne_of_none hP nC
    have sz : s.heap.objs.size ≤ h'.objs.size := Nat.le_trans hge (Nat.le_of_lt hlt)
    let H1 : Hp := upd (upd H P (.tbl (tb ++ #[rawInt pos.line, rawInt pos.col, .ref cl]))) cl (LamX.CodeO cl (X.env.qual ++ "<lambda>"))
    have k1 : ∀ b o, H b = some o → b ≠ P → H1 b = some o := fun b o e b2 => by
      have b1 : b ≠ cl := ne_of_none e nC
      show upd (upd H P _) cl _ b = _
      rw [upd_ne b1, upd_ne b2]
      exact e
    have k2 : ∀ b, H1 b = none → H b = none := fun b e => by
      have e : upd (upd H P (.tbl (tb ++ #[rawInt pos.line, rawInt pos.col, .ref cl]))) cl (LamX.CodeO cl (X.env.qual ++ "<lambda>")) b = none := e
      by_cases b1 : b = cl
      · rw [b1]
        exact nC
      · rw [upd_ne b1] at e
        by_cases b2 : b = P
        · rw [b2, upd_same] at e
          cases e
        · rw [upd_ne b2] at e
          exact e
    have eL : (tb ++ #[rawInt pos.line, rawInt pos.col, .ref cl]).toList = tb.toList ++ [rawInt pos.line, rawInt pos.col, .ref cl] := by simp
    have cl1 : H1 cl = some (LamX.CodeO cl (X.env.qual ++ "<lambda>")) := upd_same
    have tabs : LamX.Tabs T H1 := fun p hp => by
      by_cases hb : p.1 = P
      · rw [hu p hp hb, hb]
        refine ⟨tb ++ #[rawInt pos.line, rawInt pos.col, .ref cl], (upd_ne nPC).trans upd_same, by rw [eL]; exact PySem.TriplesOk_snoc _ _ _ _ ht, fun p' cv hcv => ?_⟩
        rw [eL] at hcv
        rcases LamX.among_app _ ht hcv with q | q
        · obtain ⟨c0, q1, q2⟩ := ha p' cv q
          exact ⟨c0, q1, k1 _ _ q2 fun z => by rw [z, hP] at q2; exact LamX.codeO_ne tb (Option.some.inj q2).symm⟩
        · exact ⟨cl, q, cl1⟩
      · obtain ⟨tp, a1, a2, a3⟩ := hT p hp
        refine ⟨tp, ((upd_ne (ne_of_none a1 nC)).trans (upd_ne hb)).trans a1, a2, fun p' cv hcv => ?_⟩
        obtain ⟨c0, q1, q2⟩ := a3 p' cv hcv
        exact ⟨c0, q1, k1 _ _ q2 fun z => by rw [z, hP] at q2; exact LamX.codeO_ne tb (Option.some.inj q2).symm⟩
    have J := LamX.inv_table (q := X.env.qual ++ "<lambda>") (t' := tk) (more := #[rawInt pos.line, rawInt pos.col, .ref cl]) (h' := h'.push (PySem.W.kla_obj "<lambda>" (X.env.qual ++ "<lambda>") ps body sc (cloFrom X.env.cells sc.names []) ((X.mg "__name__").getD .none) cl ct)) I hP
      (fun b o nb e => Heap.get?_push_of_some _ (hx b o nb e)) (Heap.get?_push_of_some _ htb) hge ⟨oc, us, t, Heap.get?_push_of_some _ e2, e3, e4⟩
    refine h _ cl _ ct H1 _ J ⟨k1, ⟨tb, hP⟩, k2, tabs, ?_, cl1⟩ (Heap.get?_push_size _ rfl) (out _ sz)
    have n1 : h'.objs.size ≠ cl := Nat.ne_of_gt hlt
    have n2 : h'.objs.size ≠ P := Nat.ne_of_gt (Nat.lt_of_lt_of_le (Heap.lt_size oP) sz)
    show upd (upd H P _) cl _ _ = none
    rw [upd_ne n1, upd_ne n2]
    exact I.hok.fresh sz
end
end Pu
end

section
set_option maxHeartbeats 2000000
namespace Pu
open PySem PySem.Spec PyProof.Rows L2

/-! ### g(lambda: body), g a def that calls what it got and lets no error out -/
section
variable {C : Ctx} {v0 : Addr × Addr × Str × Hp}
mutual
theorem Rep.clos (h0 : C.cl = none) {G : Hp} : ∀ {v : V} {d : D}, Rep C G v d → Rep (C.clos v0) G v d
  | _, _, .non => .non
  | _, _, .bl b => .bl b
  | _, _, .int i => .int i
  | _, _, .str x => .str x
  | _, _, .tup h r => .tup h (Reps.clos h0 r)
  | _, _, .lst h r => .lst h (Reps.clos h0 r)
  | _, _, .dct h r => .dct h (RepK.clos h0 r)
  | _, _, .obj m h r => .obj m h (RepF.clos h0 r)
  | _, _, .pen h => .pen h
  | _, _, .fn h => .fn h
  | _, _, .ty n => .ty n
  | _, _, .scr h => .scr h
  | _, _, .clo h s => by rw [h0] at h; cases h
  | _, _, .lam h g c => .lam h g c
  | _, _, .exc0 h m => .exc0 h m
  | _, _, .exc1 h m g r => .exc1 h m g (RepF.clos h0 r)
theorem Reps.clos (h0 : C.cl = none) {G : Hp} : ∀ {vs : List V} {ds : List D}, Reps C G vs ds → Reps (C.clos v0) G vs ds
  | _, _, .nil => .nil
  | _, _, .cons h t => .cons (Rep.clos h0 h) (Reps.clos h0 t)
theorem RepK.clos (h0 : C.cl = none) {G : Hp} : ∀ {vs : List (Key × V)} {ds : List (Key × D)}, RepK C G vs ds → RepK (C.clos v0) G vs ds
  | _, _, .nil => .nil
  | _, _, .cons h t => .cons (Rep.clos h0 h) (RepK.clos h0 t)
theorem RepF.clos (h0 : C.cl = none) {G : Hp} : ∀ {vs : List (Str × V)} {ds : List (Str × D)}, RepF C G vs ds → RepF (C.clos v0) G vs ds
  | _, _, .nil => .nil
  | _, _, .cons h t => .cons (Rep.clos h0 h) (RepF.clos h0 t)
end
mutual
def D.noC : D → Bool
  | .clo => false
  | .tup xs => D.noCs xs
  | .lst xs => D.noCs xs
  | .dct ks => D.noCk ks
  | .obj _ fs => D.noCf fs
  | .exc _ fs => D.noCf fs
  | .non => true
  | .bl _ => true
  | .int _ => true
  | .str _ => true
  | .pen => true
  | .fn _ => true
  | .ty _ => true
  | .scr _ => true
  | .lam _ => true
def D.noCs : List D → Bool
  | [] => true
  | x :: xs => x.noC && D.noCs xs
def D.noCk : List (Key × D) → Bool
  | [] => true
  | (_, x) :: xs => x.noC && D.noCk xs
def D.noCf : List (Str × D) → Bool
  | [] => true
  | (_, x) :: xs => x.noC && D.noCf xs
end
mutual
theorem Rep.unclos {G : Hp} : ∀ {v : V} {d : D}, Rep (C.clos v0) G v d → d.noC = true → Rep C G v d
  | _, _, .non, _ => .non
  | _, _, .bl b, _ => .bl b
  | _, _, .int i, _ => .int i
  | _, _, .str x, _ => .str x
  | _, _, .tup h r, e => .tup h (Reps.unclos r (by simpa only [D.noC] using e))
  | _, _, .lst h r, e => .lst h (Reps.unclos r (by simpa only [D.noC] using e))
  | _, _, .dct h r, e => .dct h (RepK.unclos r (by simpa only [D.noC] using e))
  | _, _, .obj m h r, e => .obj m h (RepF.unclos r (by simpa only [D.noC] using e))
  | _, _, .pen h, _ => .pen h
  | _, _, .fn h, _ => .fn h
  | _, _, .ty n, _ => .ty n
  | _, _, .scr h, _ => .scr h
  | _, _, .clo h s, e => by simp [D.noC] at e
  | _, _, .lam h g c, _ => .lam h g c
  | _, _, .exc0 h m, _ => .exc0 h m
  | _, _, .exc1 h m g r, e => .exc1 h m g (RepF.unclos r (by simpa only [D.noC] using e))
theorem Reps.unclos {G : Hp} : ∀ {vs : List V} {ds : List D}, Reps (C.clos v0) G vs ds → D.noCs ds = true → Reps C G vs ds
  | _, _, .nil, _ => .nil
  | _, _, .cons h t, e => by
    simp only [D.noCs, Bool.and_eq_true] at e
    exact .cons (Rep.unclos h e.1) (Reps.unclos t e.2)
theorem RepK.unclos {G : Hp} : ∀ {vs : List (Key × V)} {ds : List (Key × D)}, RepK (C.clos v0) G vs ds → D.noCk ds = true → RepK C G vs ds
  | _, _, .nil, _ => .nil
  | _, _, .cons h t, e => by
    simp only [D.noCk, Bool.and_eq_true] at e
    exact .cons (Rep.unclos h e.1) (RepK.unclos t e.2)
theorem RepF.unclos {G : Hp} : ∀ {vs : List (Str × V)} {ds : List (Str × D)}, RepF (C.clos v0) G vs ds → D.noCf ds = true → RepF C G vs ds
  | _, _, .nil, _ => .nil
  | _, _, .cons h t, e => by
    simp only [D.noCf, Bool.and_eq_true] at e
    exact .cons (Rep.unclos h e.1) (RepF.unclos t e.2)
end
theorem Ext.unclos {G H G' H' : Hp} (h0 : C.cl = none) (x : Ext (C.clos v0) G H G' H') : Ext C G H G' H' := ⟨x.sub, x.gro, x.new, x.kee, x.fre, ⟨x.tab.tabs, x.tab.sm, fun f c q Gc e => by rw [h0] at e; cases e⟩⟩
end
/-- the maker's slots as the lambda may see them: what is frozen -/
def frzE (env : Env) : Env := env.map fun s => match s with
  | .val d => .val d
  | _ => .un
/-- the call of what was given -/
def mClo (i : Nat) (cb : Pen → Out D) : EM := fun env p => match env[i]? with
  | some (.val .clo) => cb p
  | _ => .bad
/-- g's mirror by what it was given -/
abbrev BM := (Pen → Out D) → SM
def mLam (n : Nat) (bg : BM) (mb : EM) : EM := fun env p => ((bg (fun q => mb (frzE env) q) (env0 n [.clo]) p).fin.ne).bind fun d q => if d.noC = true then .ok d q else .bad
theorem LOk.frzE {C : Ctx} {G H : Hp} {σ : St} {env : Env} {p : Pen} (L : LOk C G H σ env p) {v0 : Addr × Addr × Str × Hp} (h0 : C.cl = none) {G' H' : Hp} {q : Pen} (s1 : Sub G G') (s2 : Sub G' H') (t : Tb (C.clos v0) H') (n : NT C G') (y : PenAt C G' H' q) : LOk (C.clos v0) G' H' σ (frzE env) q := by
  refine ⟨s2, t, y, by unfold Pu.frzE; rw [List.length_map]; exact L.len, fun i x s h1 h2 => ?_, fun i j ds es a h1 _ _ _ => ?_, n⟩
  · unfold Pu.frzE at h2
    rw [List.getElem?_map] at h2
    cases e : env[i]? with
    | none =>
      rw [e] at h2
      cases h2
    | some s' =>
      rw [e] at h2
      have z := L.slot i x s' h1 e
      cases z with
      | un =>
        cases h2
        exact .un _
      | val r =>
        cases h2
        exact .val ((r.mono s1).clos h0)
      | own h n r =>
        cases h2
        exact .un _
  · unfold Pu.frzE at h1
    rw [List.getElem?_map] at h1
    cases e : env[i]? with
    | none =>
      rw [e] at h1
      cases h1
    | some s' =>
      rw [e] at h1
      cases s' <;> cases h1
section
variable {X : Cx} {C : Ctx} {W : WX}
/-- what is asked of the def that gets the lambda -/
def Gets (X : Cx) (C : Ctx) (Ng : List Str) (qg : Str) (sg : Scope) (g : Addr) (cdg : Value) (bodyg : List Stmt) (a : Str) (k : Nat) (bg : BM) : Prop :=
  ∀ (s : Shared) (H : Hp) (v : Addr × Addr × Str × Hp) (cb : Pen → Out D), (∀ (W : WX) (pn : List (Addr × Obj)) (xe : Value → Shared → Prop) (p1 p2 : Pos), Takes ((gCx X Ng qg sg g cdg s H).tr pn xe) W → PE ((gCx X Ng qg sg g cdg s H).tr pn xe) (.Call (.Name a p1) [] [] p2) (rE (C.clos v) W (mClo 0 cb))) →
    Wk (gCx X Ng qg sg g cdg s H).nox (C.clos v) W0 true k → PSs (gCx X Ng qg sg g cdg s H).nox bodyg (rS (C.clos v) W0 (bg cb))
theorem pm_lam {x a nm : Str} {fd : FuncData} {g c P : Addr} {k j : Nat} {pg : Arguments} {bodyg : List Stmt} {sg : Scope} {Ng : List Str} {ps : Arguments} {body : Expr} {sc : Scope} {p lpos pos : Pos} {bg : BM} {mb : EM} (w : Wk X C W true j) (hcl : C.cl = none) (hkj : k + 2 ≤ j) (F : FunD C.K x x pg bodyg sg [] [] g fd) (hm : C.mg x = some (.ref g)) (hb : Binds C.K fd [a] []) (Sg : FnScope Ng [a] sg) (hNg : Ng[0]? = some a) (hva : Vis sg a)
    (hG : ∀ cdg, Gets X C Ng x sg g cdg bodyg a (k + 1) bg)
    (nmE : nm = X.env.qual ++ "<lambda>") (TB : LamX.TabB X.base X.mg c P) (hcode : X.env.code = .ref c) (hmT : (P, nm) ∈ C.T) (hu : ∀ p ∈ C.T, p.1 = P → p.2 = nm) (L : LamX.LamS X.env.scope sc) (hdef : defaultsOf ps X.env = ([], []))
    (hbind : ∀ (q : Str) (cl : List (Str × Addr)) (pm cv ctv : Value), bindArgs (PySem.W.kla_fn "<lambda>" q ps body sc cl pm cv ctv) ⟨[], []⟩ = pure [])
    (hbody : ∀ (v : Addr × Addr × Str × Hp) (A : Around) (outer : List PySem.Env) (s : Shared) (H : Hp) (E : XK) (f c' : Addr), Wk (LamX.lamCx X A outer s H E sc f c') (C.clos v) (fun cls d _ H => E cls d H) true k → PE (LamX.lamCx X A outer s H E sc f c') body (rE (C.clos v) (fun cls d _ H => E cls d H) mb))
    (hg : Gl X x := by rfl) (hdb : (x == ("__debug__" : Str)) = false := by decide) (hd : (a == ("__debug__" : Str)) = false := by decide) (hcd : (a == ("__classdict__" : Str)) = false := by decide) :
    PE X (.Call (.Name x p) [.Lambda ps body sc lpos] [] pos) (rE C W (mLam Ng.length bg mb)) := by
  refine ⟨fun pins s σ H Q I ⟨G, env, p0, Lk, o⟩ => ?_⟩
  have kp := F.kp
  rw [w.K] at kp hb
  have hm1 : X.mg x = some (.ref g) := by rw [← w.mg]; exact hm
  obtain ⟨oc, od, dV, kV, doc, pm0, an, cdg, ct0, osl, rfl, lk, hcg, _, _⟩ := F.ex
  rw [w.K] at lk hcg
  refine wpAny_Call_Name_kw (ld_glob I hg hm1 ?_ hdb)
  refine PySem.W.callWith_K (h₀ := X.base) I.ok.mod.kin kp ?_ (by rfl) (by rfl)
  show wpAny _ _ (spliced ((false, eval (.Lambda ps body sc lpos) X.env) :: backTo pos (starEach [] X.env))) _ _ s
  refine Calls.spliced_cons (lam_new nmE I TB hcode hmT hu Lk.tab.tabs hdef (L.has I.ok) fun f cl pm ct H1 z I1 M ho hfr => ?_)
  refine Calls.spliced_nil ⟨I1.kIn, ?_⟩
  let v : Addr × Addr × Str × Hp := (f, cl, nm, G)
  have nP : ∀ b u, H b = some u → (∀ ps, u ≠ .tbl ps) → b ≠ P := fun b u e n z => by
    obtain ⟨tp, q⟩ := M.tbl
    rw [z, q] at e
    cases e
    exact n tp rfl
  have sub1 : Sub G H1 := fun b u e => M.kee b u (Lk.sub b u e) fun z => by
    have q := Lk.nt _ hmT
    rw [← z, e] at q
    cases q
  · have tab1 : Tb (C.clos v) H1 := ⟨M.tab, Lk.tab.sm.elim fun o h => h.elim fun u q => ⟨o, u, M.kee _ _ q (nP _ _ q fun _ z => by cases z)⟩, fun f' c' q' Gc e => by
      have e' : (f, cl, nm, G) = (f', c', q', Gc) := Option.some.inj e
      cases e'
      exact M.co⟩
    have pen1 : PenAt (C.clos v) G H1 p0 := fun b e => by
      obtain ⟨q1, q2, q3⟩ := Lk.pen b e
      exact ⟨q1, M.kee _ _ q2 (nP _ _ q2 fun _ z => by cases z), q3⟩
    have ext1 : Ext C G H G H1 := ⟨sub1, Sub.refl _, fun _ _ e => .inl e, fun b u e _ n2 => M.kee b u e (nP b u e n2), M.fre, ⟨tab1.tabs, tab1.sm, fun f c q Gc e => by rw [hcl] at e; cases e⟩⟩
    have rv : Reps (C.clos v) G [V.ref f] [.clo] := .cons (.clo rfl (Sub.refl _)) .nil
    have goes : codeAny (model X.prog X.w) X.A (.call (.ref g) ⟨[.ref f], []⟩) (CR C8.CX0 X.stack X.prog X.w H1 z Q C8.E0) z := by
      refine LamX.run_ofS (N := Ng) (ps := [a]) (us := [.ref f]) (vs := [.ref f]) lk hcg Sg (w.room.mono hkj) I1.env0 (hb z [.ref f] I1.kIn rfl) (.cons rfl .nil) rfl fun room => ?_
      have wk : Wk (gCx X Ng x sg g cdg z H1).nox (C.clos v) W0 true (k + 1) := ⟨w.K, w.mg, room, w.gd, takes0, w.cold⟩
      have act : ∀ (W : WX) (pn : List (Addr × Obj)) (xe : Value → Shared → Prop) (p1 p2 : Pos), Takes ((gCx X Ng x sg g cdg z H1).tr pn xe) W → PE ((gCx X Ng x sg g cdg z H1).tr pn xe) (.Call (.Name a p1) [] [] p2) (rE (C.clos v) W (mClo 0 fun q => mb (frzE env) q)) := fun W pn xe p1 p2 tk => by
        have base := act_clo (i := 0) (tb := fun E => rE (C.clos v) (fun cls d _ H => E cls d H) mb) (p1 := p1) (p2 := p2) I1 L nmE ho M.fn hfr (hbind _ _ _ _ _) tk room (fun E A outer s2 H2 rm gd => hbody v A outer s2 H2 E f cl ⟨w.K, w.mg, rm, fun _ => gd.trans (w.gd rfl), takes_of rfl rfl rfl rfl, w.cold⟩) hNg hva hd hcd
        refine base.of fun σZ HZ Q' ⟨G', envZ, q, LZ, oz⟩ => ?_
        unfold mClo at oz
        split at oz
        · rename_i hi
          obtain ⟨u, u1, u2⟩ := LZ.val hi
          cases u2 with
          | @clo f2 c2 q2 Gc e sG =>
            have e' : (f, cl, nm, G) = (f2, c2, q2, Gc) := Option.some.inj e
            cases e'
            exact ⟨u1, LZ.tab.co _ _ _ _ rfl, G', frzE env, q, Lk.frzE hcl sG LZ.sub LZ.tab LZ.nt LZ.pen, oz.imp (fun d q2 z2 => z2) fun er q2 z2 => z2⟩
        · exact oz.elim
      refine ⟨_, (hG cdg z H1 v (fun q => mb (frzE env) q) act wk).nox, G, H1, G, env0 Ng.length [.clo], p0, start_sok sub1 tab1 Lk.nt pen1 rv, ?_⟩
      have o1 := OutP.bind o
      cases e : bg (fun q => mb (frzE env) q) (env0 Ng.length [.clo]) p0 with
      | next env2 q2 =>
        rw [e] at o1
        exact fun σ' G' H' S' _ => o1 .non G' H' (ext1.trans (S'.x.unclos hcl)) S'.l.pen .non
      | ret d q2 =>
        rw [e] at o1
        have o2 : OutP (if d.noC = true then .ok d q2 else .bad) _ _ := o1
        split at o2
        · rename_i nc
          exact fun v G' H' x' y' r' => o2 v G' H' (ext1.trans (x'.unclos hcl)) y' (r'.unclos nc)
        · exact o2.elim
      | err er env2 q2 =>
        rw [e] at o1
        exact (show False from o1).elim
      | brk env2 q2 =>
        rw [e] at o1
        exact (show False from o1).elim
      | cnt env2 q2 =>
        rw [e] at o1
        exact (show False from o1).elim
      | bad =>
        rw [e] at o1
        exact (show False from o1).elim
    refine wpAny_call (codeAny_mono goes fun res s2 hq => ?_)
    cases res with
    | error e => exact (show False from hq).elim
    | ok fl => cases fl with
      | ret u => exact I1.after hq
      | next => exact hq.elim
      | brk => exact hq.elim
      | cont => exact hq.elim
end
end Pu
end

section
set_option maxHeartbeats 2000000
namespace Pu
open PySem PySem.Spec PyProof.Rows L2

/-! ### instances of own classes -/
def putD (f : Str) (d : D) : List (Str × D) → List (Str × D)
  | [] => [(f, d)]
  | (g, x) :: r => if g = f then (g, d) :: r else (g, x) :: putD f d r
theorem RepF.put {C : Ctx} {G : Hp} {f : Str} {v : V} {d : D} (h : Rep C G v d) : ∀ {vs : List (Str × V)} {ds : List (Str × D)}, RepF C G vs ds → RepF C G (putF f v vs) (putD f d ds)
  | _, _, .nil => .cons h .nil
  | _, _, .cons (k := k) h1 t => by
    unfold putF putD
    by_cases c : k = f
    · rw [if_pos c, if_pos c]
      exact .cons h t
    · rw [if_neg c, if_neg c]
      exact .cons h1 (RepF.put h t)
theorem RepF.len {C : Ctx} {G : Hp} : ∀ {vs : List (Str × V)} {ds : List (Str × D)}, RepF C G vs ds → vs.length = ds.length
  | _, _, .nil => rfl
  | _, _, .cons _ t => by rw [List.length_cons, List.length_cons, RepF.len t]
/-- an instance that is being made: it stands in the heap, it is not frozen -/
structure Slf (C : Ctx) (G H : Hp) (a cA dx : Addr) (fvs : List (Str × V)) : Prop where
  at_ : H a = some (.ins cA dx fvs)
  free : G a = none
section
variable {C : Ctx} {G G0 H0 H G' H' : Hp} {σ : St} {env : Env} {p q : Pen} {a cA dx : Addr} {fvs gvs : List (Str × V)}
theorem Slf.step (S : Slf C G H a cA dx fvs) (y : PenAt C G H p) (x : Ext C G H G' H') : Slf C G' H' a cA dx fvs := by
  have h : H' a = some (.ins cA dx fvs) := x.kee _ _ S.at_ (fun e => by
    obtain ⟨_, w, _⟩ := y a e
    rw [S.at_] at w
    cases w) fun _ z => by cases z
  refine ⟨h, ?_⟩
  cases e : G' a with
  | none => rfl
  | some o =>
    rcases x.new a o e with z | z | ⟨q, z⟩
    · rw [S.free] at z
      cases z
    · rw [S.at_] at z
      cases z
    · rw [x.sub _ _ e, z] at h
      cases h
theorem tb_ins (t : Tb C H) (h : H a = some (.ins cA dx fvs)) (o : HO) : Tb C (upd H a o) := tb_put t h (fun _ z => by cases z) (fun c q z => by unfold LamX.CodeO at z; cases z) fun _ _ z => by cases z
/-- its fields are written -/
theorem LOk.ins (L : LOk C G H σ env p) (S : Slf C G H a cA dx fvs) : LOk C G (upd H a (.ins cA dx gvs)) σ env p := by
  refine ⟨fun b o e => ?_, tb_ins L.tab S.at_ _, fun b e => ?_, L.len, fun j x s q1 q2 => ?_, L.dis, L.nt⟩
  · rw [upd_ne (ne_of_none e S.free)]
    exact L.sub b o e
  · obtain ⟨k1, k2, k3⟩ := L.pen b e
    refine ⟨k1, ?_, k3⟩
    rw [upd_ne (ne_of k2 S.at_ (by intro w; cases w))]
    exact k2
  · have s0 := L.slot j x s q1 q2
    cases s0 with
    | un => exact .un _
    | val r => exact .val r
    | own w1 w2 w3 =>
      refine .own ?_ w2 w3
      rw [upd_ne (ne_of w1 S.at_ (by intro w; cases w))]
      exact w1
/-- steps of the heap in which it stands as it stood at first -/
theorem Ext.insBack (x : Ext C G0 H0 G (upd H a (.ins cA dx gvs))) (S : Slf C G H a cA dx fvs) (y : PenAt C G H p) (z : Ext C G H G' H') : Ext C G0 H0 G' (upd H' a (.ins cA dx gvs)) := by
  have S' := S.step y z
  refine ⟨fun b o e => ?_, x.gro.trans z.gro, fun b o e => ?_, fun b o e n1 n2 => ?_, fun b e => ?_, tb_ins z.tab S'.at_ _⟩
  · rw [upd_ne (ne_of_none e S'.free)]
    exact z.sub b o e
  · rcases z.new b o e with w | w | w
    · exact x.new b o w
    · have nb : b ≠ a := fun q => by
        rw [q, S.at_] at w
        cases w
      exact .inr (.inl (x.fre b (by rw [upd_ne nb]; exact w)))
    · exact .inr (.inr w)
  · have k := x.kee b o e n1 n2
    by_cases nb : b = a
    · subst nb
      rw [upd_same] at k ⊢
      exact k
    · rw [upd_ne nb] at k ⊢
      exact z.kee b o k n1 n2
  · by_cases nb : b = a
    · rw [nb, upd_same] at e
      cases e
    · rw [upd_ne nb] at e
      have k := z.fre b e
      exact x.fre b (by rw [upd_ne nb]; exact k)
end
/-- the fields' stores, one behind another -/
def mFlds : List (Str × EM) → List (Str × D) → Env → Pen → Out (List (Str × D))
  | [], fs, _, p => .ok fs p
  | (f, m) :: r, fs, env, p => (m env p).bind fun d q => mFlds r (putD f d fs) env q
/-- self.f = e, ..: self in slot 0, unknown to the layer -/
def rFlds (C : Ctx) (W : WX) (cA : Addr) (ms : List (Str × EM)) : TS := fun D σ H => ∃ G env p a dx fvs fs, LOk C G H σ env p ∧ σ[0]? = some (some (.ref a)) ∧ Slf C G H a cA dx fvs ∧ RepF C G fvs fs ∧ fs.length + ms.length ≤ 900 ∧
  OutP (mFlds ms fs env p) (fun fs' q => ∀ G' H' fvs', Ext C G (upd H a (.ins cA dx [])) G' (upd H' a (.ins cA dx [])) → Slf C G' H' a cA dx fvs' → RepF C G' fvs' fs' → PenAt C G' H' q → D.nx σ H')
    (fun e q => ∀ cls dd G' H' fvs', Ext C G (upd H a (.ins cA dx [])) G' (upd H' a (.ins cA dx [])) → Slf C G' H' a cA dx fvs' → PenAt C G' H' q → ErrRep C G' H' cls dd e → W cls dd σ H')
section
variable {X : Cx} {C : Ctx} {W : WX} {cA : Addr} {f x : Str} {e : Expr} {m : EM} {ms : List (Str × EM)} {rest : List Stmt} {p1 p2 pos : Pos}
theorem fl_nil : PSs X [] (rFlds C W cA []) := pss_nil.of fun D σ H ⟨G, env, p, a, dx, fvs, fs, L, h0, S, r, hl, o⟩ =>
  o G H fvs (Ext.refl (fun b u e => by rw [upd_ne (ne_of_none e S.free)]; exact L.sub b u e) (tb_ins L.tab S.at_ _)) S r L.pen
theorem fl_cons (hK : C.K = X.K) (hc : Cls C.K cA) (hn : NoAttr C.K cA f) (h : PE X e (rE C W m)) (hr : PSs X rest (rFlds C W cA ms)) (hN : X.N[0]? = some x := by rfl) (hv : Vis X.env.scope x := by first | exact Or.inl rfl | exact Or.inr (Or.inl rfl) | exact Or.inr (Or.inr rfl)) (hd : (x == ("__debug__" : Str)) = false := by decide)
    (hcd : (x == ("__classdict__" : Str)) = false := by decide) (hs : swapsWith e (some (.Attribute (.Name x p1) f p2)) pos.line X.env = pure false := by rfl) : PSs X (.Assign [.Attribute (.Name x p1) f p2] e pos :: rest) (rFlds C W cA ((f, m) :: ms)) :=
  (pss_cons (ps_fld (pe_var hN hv hd hcd) h hs) hr).of fun D σ H ⟨G, env, p, a, dx, fvs, fs, L, h0, S, r, hl, o⟩ => by
    have S1 : Ext C G (upd H a (.ins cA dx [])) G (upd H a (.ins cA dx [])) := Ext.refl (fun b u e => by rw [upd_ne (ne_of_none e S.free)]; exact L.sub b u e) (tb_ins L.tab S.at_ _)
    refine ⟨G, env, p, L, (OutP.bind o).imp (fun d q z v G1 H1 x1 y1 r1 => ?_) fun er q z cls dd G1 H1 x1 y1 r1 => z cls dd G1 H1 fvs (S1.insBack S L.pen x1) (S.step L.pen x1) y1 r1⟩
    have S2 := S.step L.pen x1
    have L1 := L.step x1 y1
    refine ⟨_, h0, a, cA, dx, fvs, rfl, S2.at_, by rw [← hK]; exact hc, by rw [← hK]; exact hn, by rw [r.len]; omega, ?_⟩
    have L2' := L1.ins (gvs := putF f v fvs) S2
    have Sn : Slf C G1 (upd H1 a (.ins cA dx (putF f v fvs))) a cA dx (putF f v fvs) := ⟨upd_same, S2.free⟩
    have lp : ∀ (fs : List (Str × Pu.D)), (putD f d fs).length ≤ fs.length + 1 := by
      intro fs
      induction fs with
      | nil => exact Nat.le_refl _
      | cons g t ih =>
        unfold putD
        split
        · rw [List.length_cons, List.length_cons]
          omega
        · rw [List.length_cons, List.length_cons]
          omega
    have lp1 := lp fs
    have hl' : fs.length + (ms.length + 1) ≤ 900 := hl
    have back : ∀ {G2 H2}, Ext C G1 (upd (upd H1 a (.ins cA dx (putF f v fvs))) a (.ins cA dx [])) G2 (upd H2 a (.ins cA dx [])) → Ext C G (upd H a (.ins cA dx [])) G2 (upd H2 a (.ins cA dx [])) := fun {G2 H2} x2 => by
      rw [upd_upd] at x2
      exact (S1.insBack S L.pen x1).trans x2
    exact ⟨G1, env, q, a, dx, _, _, L2', h0, Sn, (r.mono x1.gro).put r1, by omega, z.imp (fun fs' q2 z2 G2 H2 fvs' x2 s2 r2 y2 => z2 G2 H2 fvs' (back x2) s2 r2 y2) fun er q2 z2 cls dd G2 H2 fvs' x2 s2 y2 r2 => z2 cls dd G2 H2 fvs' (back x2) s2 y2 r2⟩
end
end Pu
end

section
set_option maxHeartbeats 2000000
namespace Pu
open PySem PySem.Spec PyProof.Rows L2

/-! ### __init__: checks, then fields; instances made -/
/-- what it gives: the fields -/
abbrev OF := Env → Pen → Out (List (Str × D))
def InP (C : Ctx) (W : WX) (G H : Hp) (σ : St) (a cA dx : Addr) (nx : List (Str × D) → Hp → Prop) (o : Out (List (Str × D))) : Prop :=
  OutP o (fun fs' q => ∀ G' H' fvs', Ext C G (upd H a (.ins cA dx [])) G' (upd H' a (.ins cA dx [])) → Slf C G' H' a cA dx fvs' → RepF C G' fvs' fs' → PenAt C G' H' q → nx fs' H')
    (fun e q => ∀ cls dd G' H' fvs', Ext C G (upd H a (.ins cA dx [])) G' (upd H' a (.ins cA dx [])) → Slf C G' H' a cA dx fvs' → PenAt C G' H' q → ErrRep C G' H' cls dd e → W cls dd σ H')
/-- before the fields -/
def rIn (C : Ctx) (W : WX) (cA : Addr) (n : Nat) (m : OF) : TS := fun D σ H => ∃ G env p a dx, LOk C G H σ env p ∧ (∀ (i : Nat) (ds : List Pu.D), env[i]? ≠ some (.own ds)) ∧ σ[0]? = some (some (.ref a)) ∧ Slf C G H a cA dx [] ∧ n ≤ 900 ∧
  InP C W G H σ a cA dx (fun _ H' => D.nx σ H') (m env p)
def mIn (ms : List (Str × EM)) : OF := mFlds ms []
theorem in_flds {X : Cx} {C : Ctx} {W : WX} {cA : Addr} {ms : List (Str × EM)} {ss : List Stmt} (h : PSs X ss (rFlds C W cA ms)) : PSs X ss (rIn C W cA ms.length (mIn ms)) := h.of fun D σ H ⟨G, env, p, a, dx, L, _, h0, S, hn, o⟩ =>
  ⟨G, env, p, a, dx, [], [], L, h0, S, .nil, by simpa using hn, o⟩
/-- if t: raise .. -/
def mChk (t : TM) (a : SM) (m : OF) : OF := fun env p => (t env p).bind fun k q => if k = true then (match a env q with
  | .err e _ q' => .err e q'
  | _ => .bad) else m env q
/-- f(e, ..) for its errors -/
def mDo (e : EM) (m : OF) : OF := fun env p => (e env p).bind fun _ q => m env q
section
variable {X : Cx} {C : Ctx} {W : WX} {cA : Addr} {n : Nat} {m : OF} {rest ss : List Stmt} {pos : Pos} {t e : Expr} {mt : TM} {me : EM} {a : SM}
theorem Slf.base {G H : Hp} {a cA dx : Addr} {fvs : List (Str × V)} (S : Slf C G H a cA dx fvs) : upd H a (.ins cA dx fvs) = H := by
  funext b
  by_cases h : b = a
  · rw [h, upd_same, S.at_]
  · rw [upd_ne h]
theorem InP.step {G H G1 H1 : Hp} {σ : St} {a cA dx : Addr} {nx : List (Str × D) → Hp → Prop} {o : Out (List (Str × D))} {p : Pen} (S : Slf C G H a cA dx []) (y : PenAt C G H p) (x : Ext C G H G1 H1) (h : InP C W G H σ a cA dx nx o) : InP C W G1 H1 σ a cA dx nx o := by
  have S1 := S.step y x
  unfold InP at h ⊢
  rw [S.base] at h
  rw [S1.base]
  exact h.imp (fun fs q z G' H' fvs x1 s1 r1 y1 => z G' H' fvs (x.trans x1) s1 r1 y1) fun e q z cls dd G' H' fvs x1 s1 y1 r1 => z cls dd G' H' fvs (x.trans x1) s1 y1 r1
theorem InP.bind {α : Type} {G H : Hp} {σ : St} {b cA dx : Addr} {nx : List (Str × D) → Hp → Prop} {o : Out α} {k : α → Pen → Out (List (Str × D))} {p : Pen} (S : Slf C G H b cA dx []) (y : PenAt C G H p) (h : InP C W G H σ b cA dx nx (o.bind k)) : OutP o (fun z q => InP C W G H σ b cA dx nx (k z q)) (ErrP C W G H σ) := by
  unfold InP at h
  refine (OutP.bind h).imp (fun z q w => w) fun er q z cls dd G1 H1 x1 y1 r1 => ?_
  have S1 := S.step y x1
  exact z cls dd G1 H1 [] (by rw [S.base, S1.base]; exact x1) S1 y1 r1
theorem in_if (ht : PT X t (rT C W mt)) (ha : PSs X ss (rS C W a)) (hr : PSs X rest (rIn C W cA n m)) (hW : ∀ cls d σ σ' H, W cls d σ H → W cls d σ' H := by exact fun _ _ _ _ _ h => h) : PSs X (.If t ss [] pos :: rest) (rIn C W cA n (mChk mt a m)) :=
  (pss_cons (ps_if ht ha pss_nil) hr).of fun D σ H ⟨G, env, p, x, dx, L, no, h0, S, hn, o⟩ => by
    refine ⟨G, env, p, L, (InP.bind S L.pen o).imp (fun k q z G1 H1 x1 y1 => ?_) fun _ _ z => z⟩
    have z := z.step S L.pen x1
    have S1 := S.step L.pen x1
    have L1 := L.step x1 y1
    cases k with
    | true =>
      simp only [if_pos] at z ⊢
      refine ⟨G1, H1, G1, env, q, ⟨L1, Ext.refl L1.sub L1.tab, fun i ds b h1 _ => absurd h1 (no i ds)⟩, ?_⟩
      cases r : a env q with
      | err er env' q' =>
        rw [r] at z
        intro cls dd σ' G' H' S' _ er'
        have S2 := S1.step L1.pen S'.x
        refine hW _ _ _ _ _ (z cls dd G' H' [] ?_ S2 S'.l.pen er')
        rw [S1.base, S2.base]
        exact S'.x
      | _ =>
        rw [r] at z
        exact z.elim
    | false =>
      exact ⟨G1, env, q, x, dx, L1, no, h0, S1, hn, z⟩
theorem in_do (h : PE X e (rB C W me)) (hr : PSs X rest (rIn C W cA n m)) (hs : swapsWith e none pos.line X.env = pure false := by rfl) : PSs X (.Expr e pos :: rest) (rIn C W cA n (mDo me m)) :=
  (pss_cons (ps_expr h hs) hr).of fun D σ H ⟨G, env, p, x, dx, L, no, h0, S, hn, o⟩ =>
    ⟨G, env, p, L, (InP.bind S L.pen o).imp (fun d q z v G1 H1 x1 y1 _ => ⟨G1, env, q, x, dx, L.step x1 y1, no, h0, S.step L.pen x1, hn, z.step S L.pen x1⟩) fun _ _ z => z⟩
end
end Pu
end

section
set_option maxHeartbeats 2000000
namespace Pu
open PySem PySem.Spec PyProof.Rows L2

/-! ### the promise of an __init__; C(e, ..) -/
abbrev IM := List D → Pen → Out (List (Str × D))
def spIn (C : Ctx) (cA : Addr) (m : IM) (n : Nat) : Sp := fun vs H Q E => ∃ a dx G ws ds p, vs = .ref a :: ws ∧ ws.length = n ∧ Sub G H ∧ Tb C H ∧ NT C G ∧ PenAt C G H p ∧ Slf C G H a cA dx [] ∧ Reps C G ws ds ∧
  OutP (m ds p) (fun fs' q => ∀ G' H' fvs', Ext C G (upd H a (.ins cA dx [])) G' (upd H' a (.ins cA dx [])) → Slf C G' H' a cA dx fvs' → RepF C G' fvs' fs' → PenAt C G' H' q → Q .non H')
    (fun e q => ∀ cls dd G' H' fvs', Ext C G (upd H a (.ins cA dx [])) G' (upd H' a (.ins cA dx [])) → Slf C G' H' a cA dx fvs' → PenAt C G' H' q → ErrRep C G' H' cls dd e → E cls dd H')
theorem spIn_len {C : Ctx} {cA : Addr} {m : IM} {n : Nat} {vs : List V} {H : Hp} {Q : VK} {E : XK} (h : spIn C cA m n vs H Q E) : vs.length = n + 1 := by
  obtain ⟨a, dx, G, ws, ds, p, rfl, h, _⟩ := h
  rw [List.length_cons, h]
def env1 (n : Nat) (ds : List D) : Env := (env0 n (.non :: ds)).set 0 .un
/-- an __init__'s mirror by its body's -/
def mDefI (n : Nat) (m : OF) : IM := fun ds p => m (env1 n ds) p
theorem start_in {C : Ctx} {G H : Hp} {N : List Str} {x : V} {vs : List V} {ds : List D} {p : Pen} (s : Sub G H) (t : Tb C H) (n : NT C G) (y : PenAt C G H p) (r : Reps C G vs ds) : LOk C G H (L2.start N (x :: vs)) (env1 N.length ds) p ∧ ∀ (i : Nat) (es : List D), (env1 N.length ds)[i]? ≠ some (.own es) := by
  have L := (start_ok (N := N) s t n y (.cons (.non) r)).setU 0 (v := some x)
  have e : (L2.start N (V.non :: vs)).set 0 (some x) = L2.start N (x :: vs) := by
    unfold L2.start
    rfl
  rw [e] at L
  refine ⟨L, fun i es h => ?_⟩
  obtain ⟨b, ws, h1, h2, h3, h4⟩ := L.own h
  unfold env1 at h
  rw [List.getElem?_set] at h
  split at h
  · split at h
    · cases h
    · cases h
  · unfold env0 at h
    by_cases hi : i < (D.non :: ds).length
    · rw [List.getElem?_append_left (by rw [List.length_map]; exact hi), List.getElem?_map, List.getElem?_eq_getElem hi] at h
      cases h
    · rw [List.getElem?_append_right (by rw [List.length_map]; omega), List.getElem?_replicate] at h
      split at h
      · cases h
      · cases h
theorem fn_in {gd : Bool} {C : Ctx} {P : Program} {w : World} {base : Heap} {k n : Nat} {f cA : Addr} {name qual : Str} {params : Arguments} {body : List Stmt} {scope : Scope} {dV kV doc pm cdv ct oc : Value} {an od : Option Addr}
    {osl : Array (Option Value)} {N ps : List Str} {s1 : Str} {m : OF} (lk : C.K.lookup f = some ⟨oc, od, .func (PySem.W.fnOf name qual params body scope dV kV doc pm an cdv ct), osl⟩) (hcd : PySem.W.codeIn C.K cdv qual = true) (S : FnScope N (s1 :: ps) scope) (hx : C.ex = none) (hn : n ≤ 900)
    (hb : ∀ (A : Around) (outer : List PySem.Env) (s : Shared) (H : Hp) (E : XK), Wk (cxOf (L2.CX P w) P w C.K C.mg base N qual scope f cdv A outer s H E) C (fun cls d _ H => E cls d H) gd k → PSs (cxOf (L2.CX P w) P w C.K C.mg base N qual scope f cdv A outer s H E) body (rIn C (fun cls d _ H => E cls d H) cA n m)) :
    FnA gd P w C.K C.mg base (L2.CX P w) (k + 1) f (PySem.W.fnOf name qual params body scope dV kV doc pm an cdv ct) (s1 :: ps) (spIn C cA (mDefI N.length m) ps.length) := by
  refine ⟨fun vs H Q E h => spIn_len h, fun A outer s H args us vs Q E hr hg e0 hbi r hsp => ?_⟩
  have hl := spIn_len hsp
  obtain ⟨a, dx, G, ws, ds, p, e1, hw, hs, ht, hnt, hy, hS, hr', ho⟩ := hsp
  refine LamX.run_ofS (CX := L2.CX P w) lk hcd S hr e0 hbi r hl fun room => ⟨_, hb A outer s H E ⟨rfl, rfl, room, hg, takes_of rfl rfl rfl rfl, hx⟩, G, env1 N.length ds, p, a, dx, ?_, ?_, ?_, hS, hn, ho⟩
  · rw [e1]
    exact (start_in hs ht hnt hy hr').1
  · exact (start_in (x := .ref a) hs ht hnt hy hr').2
  · rw [e1]
    rfl
/-- a class whose instances are made by its own __init__ -/
structure Ins (C : Ctx) (P : Program) (w : World) (base : Heap) (gd : Bool) (x : Str) (k n : Nat) (m : IM) : Prop where
  ex : ∃ (cA f : Addr) (fd : FuncData) (ps : List Str), C.mg x = some (.ref cA) ∧ Mk C.K cA f ∧ Binds C.K fd ps [] ∧ ps.length = n + 1 ∧ FnA gd P w C.K C.mg base (L2.CX P w) k f fd ps (spIn C cA m n)
def mMk (x : Str) (m : IM) (a : AM) : EM := fun env p => (a env p).bind fun ds q => (m ds q).bind fun fs q2 => .ok (.obj x fs) q2
theorem run_mkA {X : Cx} {gd : Bool} {k : Nat} {cA f : Addr} {fd : FuncData} {ps : List Str} {sp : Sp} {CX : CXT} {E : XK} {pins : List (Addr × Obj)} {σ : St} {H : Hp} {s : Shared} {Q : VK} {us : List Value} {vs : List V} (M : Mk X.K cA f) (F : FnA gd X.prog X.w X.K X.mg X.base CX k f fd ps sp) (hr : Room (k + 1) X.A) (hg : gd = true → X.A.guards = some [])
    (hb : Binds X.K fd ps []) (hx : ∀ (H1 : Hp) (s1 : Shared) (er : Value) (s' : Shared), Inv X pins σ H1 s1 → CX X.stack H1 s1 E er s' → X.xe er s') (I : Inv X pins σ H s) (r : Vals vs us)
    (h : ∀ x dx, H x = none → H dx = none → dx ≠ x → sp (.ref x :: vs) (upd (upd H dx (.own x)) x (.ins cA dx [])) (fun v H2 => v = .non ∧ Q (.ref x) H2) E) :
    wpAny (model X.prog X.w) X.A (call (.ref cA) us) (EP X pins σ Q) X.xe s := by
  have hq := h (s.heap.objs.size + 1) s.heap.objs.size (I.hok.fresh (Nat.le_succ _)) (I.hok.fresh (Nat.le_refl _)) (Nat.ne_of_lt (Nat.lt_succ_self _))
  have I2 := Inv.made (C := cA) I
  have r2 : Vals (V.ref (s.heap.objs.size + 1) :: vs) (Value.ref (s.heap.objs.size + 1) :: us) := .cons rfl r
  have hl : ((Value.ref (s.heap.objs.size + 1) :: us) ++ []).length = ps.length := by
    rw [List.append_nil, ← r2.length]
    exact F.len _ _ _ _ hq
  have b := hb _ (Value.ref (s.heap.objs.size + 1) :: us) I2.kIn hl
  rw [List.append_nil] at b
  have hg2 : gd = true → (X.A.under (.builtin "type.__call__" ⟨.ref cA :: us, []⟩)).guards = some [] := fun e => by
    have g := hg e
    simp [Around.under, Code.guards, Code.isGuard, guardIds, pushGuards, g]
  refine wpAny_call (make_map (f := f) I.kIn M.makes M.init (beq_iff_eq.mp M.fn) (codeAny_mono (F.run _ X.stack _ _ ⟨Value.ref (s.heap.objs.size + 1) :: us, []⟩ _ _ _ E (hr.make cA us []) hg2
    (I2.env0.make cA us []) b r2 hq) fun r s' hq' => ?_))
  cases r with
  | error e => exact hx _ _ e s' I2 hq'
  | ok fl =>
    cases fl with
    | ret u =>
      obtain ⟨v, H', I3, rv, ev, q3⟩ := I2.after hq'
      subst ev
      exact ⟨rv, ⟨V.ref (s.heap.objs.size + 1), H', I3, rfl, q3⟩⟩
    | next => exact False.elim hq'
    | brk => exact False.elim hq'
    | cont => exact False.elim hq'
section
variable {C : Ctx} {G H G' H' : Hp} {a cA dx : Addr} {fvs : List (Str × V)} {p q : Pen}
/-- the heap where it is made -/
theorem slf_new (hs : Sub G H) (ha : H a = none) : Slf C G (upd (upd H dx (.own a)) a (.ins cA dx [])) a cA dx [] := ⟨upd_same, by
  cases e : G a with
  | none => rfl
  | some o =>
    rw [hs a o e] at ha
    cases ha⟩
theorem ext_new (hs : Sub G H) (ht : Tb C H) (ha : H a = none) (hd : H dx = none) (n : dx ≠ a) : Ext C G H G (upd (upd H dx (.own a)) a (.ins cA dx [])) := by
  have keep : ∀ b o, H b = some o → (upd (upd H dx (.own a)) a (.ins cA dx [])) b = some o := fun b o e => by
    have n1 : b ≠ a := fun z => by
      rw [z, ha] at e
      cases e
    have n2 : b ≠ dx := fun z => by
      rw [z, hd] at e
      cases e
    rw [upd_ne n1, upd_ne n2]
    exact e
  refine ⟨fun b o e => keep b o (hs b o e), Sub.refl _, fun _ _ e => .inl e, fun b o e _ _ => keep b o e, fun b e => ?_, ht.ext keep⟩
  cases q : H b with
  | none => rfl
  | some o =>
    rw [keep b o q] at e
    cases e
/-- it joins the frozen heap -/
theorem ext_made (y : PenAt C G H p) (x : Ext C G H G' H') (S : Slf C G' H' a cA dx fvs) (h0 : H a = none) : Ext C G H (upd G' a (.ins cA dx fvs)) H' := by
  refine ⟨fun b o e => ?_, fun b o e => ?_, fun b o e => ?_, x.kee, x.fre, x.tab⟩
  · by_cases n : b = a
    · subst n
      rw [upd_same] at e
      cases e
      exact S.at_
    · rw [upd_ne n] at e
      exact x.sub b o e
  · have n : b ≠ a := fun z => by
      have := x.gro b o e
      rw [z, S.free] at this
      cases this
    rw [upd_ne n]
    exact x.gro b o e
  · by_cases n : b = a
    · subst n
      exact .inr (.inl h0)
    · rw [upd_ne n] at e
      exact x.new b o e
theorem pen_made (S : Slf C G' H' a cA dx fvs) (y : PenAt C G' H' q) : PenAt C (upd G' a (.ins cA dx fvs)) H' q := fun b e => by
  obtain ⟨h1, h2, h3⟩ := y b e
  have n1 : b ≠ a := fun z => by
    rw [z, S.at_] at h2
    cases h2
  have n2 : C.pl ≠ a := fun z => by
    rw [z, S.free] at h3
    cases h3
  exact ⟨by rw [upd_ne n1]; exact h1, h2, by rw [upd_ne n2]; exact h3⟩
/-- what __init__ says, without the bare instance -/
theorem ext_bare (h0 : H a = none) (n : dx ≠ a) (hd : H dx = none) (hs : Sub G H) (ht : Tb C H) (x : Ext C G (upd (upd (upd H dx (.own a)) a (.ins cA dx [])) a (.ins cA dx [])) G' (upd H' a (.ins cA dx []))) (S : Slf C G' H' a cA dx fvs) : Ext C G H G' H' := by
  rw [upd_upd] at x
  have x0 : Ext C G H G' (upd H' a (.ins cA dx [])) := (ext_new hs ht h0 hd n).trans x
  have e : upd (upd H' a (.ins cA dx [])) a (.ins cA dx fvs) = H' := by rw [upd_upd, S.base]
  have off : ∀ b, b ≠ a → upd H' a (.ins cA dx []) b = H' b := fun b z => upd_ne z
  refine ⟨fun b o e => ?_, x0.gro, x0.new, fun b o e n1 n2 => ?_, fun b e => ?_, ?_⟩
  · have nb : b ≠ a := fun z => by
      rw [z, S.free] at e
      cases e
    rw [← off b nb]
    exact x0.sub b o e
  · have nb : b ≠ a := fun z => by
      rw [z, h0] at e
      cases e
    rw [← off b nb]
    exact x0.kee b o e n1 n2
  · have nb : b ≠ a := fun z => by
      rw [z, S.at_] at e
      cases e
    exact x0.fre b (by rw [off b nb]; exact e)
  · rw [← e]
    exact tb_ins x0.tab upd_same _
end
section
variable {X : Cx} {C : Ctx} {W : WX} {e : Expr} {es : List Expr} {a : AM} {pos p : Pos} {x : Str} {gd gd' : Bool} {k j n : Nat} {m : IM}
theorem pm_mk (F : Ins C X.prog X.w X.base gd x k n m) (w : Wk X C W gd' j) (hk : k + 1 ≤ j) (hgd : gd = true → gd' = true) (ha : PA X (e :: es) (rA C W a)) (hl : ALen a n) (hg : Gl X x := by rfl) (hdb : (x == ("__debug__" : Str)) = false := by decide)
    (he : starEach (e :: es) X.env = (false, eval e X.env) :: starEach es X.env := by rfl) (hpl : (backTo pos (starEach es X.env)).any (·.1) = false := by rfl) : PE X (.Call (.Name x p) (e :: es) [] pos) (rE C W (mMk x m a)) := by
  obtain ⟨cA, f, fd, ps, h1, M, h3, h4, F⟩ := F.ex
  refine ⟨fun pins s σ H Q I ⟨G, env, p0, L, o⟩ => ?_⟩
  have hm1 : X.mg x = some (.ref cA) := by rw [← w.mg]; exact h1
  rw [w.K] at M h3 F
  rw [w.mg] at F
  refine wpAny_Call_Name_kw (ld_glob I hg hm1 ?_ hdb)
  have o2 := o.bind
  cases ea : a env p0 with
  | bad =>
    rw [ea] at o2
    exact o2.elim
  | err er q =>
    have z : rA C W a σ H (fun _ _ => False) := ⟨G, env, p0, L, by rw [ea] at o2 ⊢; exact o2⟩
    refine PySem.W.callWith_K (h₀ := X.base) I.ok.mod.kin M.kp (thn (ha.run pos pins s σ H _ I z) fun us s1 ⟨vs, H1, I1, r, q⟩ => q.elim) he hpl
  | ok ds q =>
    have lds := hl _ _ _ _ ea
    rw [ea] at o2
    have z : rA C W a σ H (fun vs H1 => ∀ x dx, H1 x = none → H1 dx = none → dx ≠ x → spIn C cA m n (.ref x :: vs) (upd (upd H1 dx (.own x)) x (.ins cA dx [])) (fun v H2 => v = .non ∧ Q (.ref x) H2) (fun cls d H' => W cls d σ H')) := ⟨G, env, p0, L, by
      rw [ea]
      intro vs G1 H1 x1 y1 r1 b dx hb hd nd
      have s1 := x1.sub
      have xn := ext_new (cA := cA) s1 x1.tab hb hd nd
      have yn : PenAt C G1 (upd (upd H1 dx (.own b)) b (.ins cA dx [])) q := fun u e => by
        obtain ⟨k1, k2, k3⟩ := y1 u e
        have n1 : u ≠ b := fun z => by
          rw [z, hb] at k2
          cases k2
        have n2 : u ≠ dx := fun z => by
          rw [z, hd] at k2
          cases k2
        exact ⟨k1, by rw [upd_ne n1, upd_ne n2]; exact k2, k3⟩
      refine ⟨b, dx, G1, vs, ds, q, rfl, by rw [r1.length]; exact lds, xn.sub, xn.tab, x1.nt L.tab L.nt, yn, slf_new s1 hb, r1, (OutP.bind o2).imp (fun fs q2 z G' H' fvs x2 S2 r2 y2 => ?_) fun er q2 z cls dd G' H' fvs x2 S2 y2 r2 => ?_⟩
      · have x3 := ext_bare hb nd hd s1 x1.tab x2 S2
        have x4 := ext_made y1 x3 S2 hb
        have gr : Sub G' (upd G' b (.ins cA dx fvs)) := fun c o e => by
          rw [upd_ne (ne_of_none e S2.free)]
          exact e
        exact ⟨rfl, z (.ref b) _ H' (x1.trans x4) (pen_made S2 y2) (.obj h1 upd_same (r2.mono gr))⟩
      · have x3 := ext_bare hb nd hd s1 x1.tab x2 S2
        exact z cls dd G' H' (x1.trans x3) y2 r2⟩
    refine PySem.W.callWith_K (h₀ := X.base) I.ok.mod.kin M.kp (thn (ha.run pos pins s σ H _ I z) fun us s1 ⟨vs, H1, I1, r, q⟩ => ⟨I1.kIn, ?_⟩) he hpl
    exact run_mkA M F (w.room.mono hk) (fun c => w.gd (hgd c)) h3 (fun H2 s2 er s' I2 c => w.tk er s' (XE.of_call I2 (fun cls d H2 h => h) c)) I1 r q
end
end Pu
end

section
set_option maxHeartbeats 2000000
namespace Pu
open PySem PySem.Spec PyProof.Rows L2

/-! ### == and != of instances by their own __eq__ -/
section
variable {prog : Program} {w : World} {A : Around} {E : Value → Shared → Prop} {s : Shared} {K : PySem.W.Frag} {x cA f : Addr} {ox : Obj} {od : Option Obj} {b : Value}
theorem ne_body (hK : K.In s.heap) (I : PySem.W.InstAt s.heap x ox cA od) (hs : PySem.W.findIn K (.ref cA) "__eq__" = some (some (.ref f))) (hf : PySem.W.isFn K (.ref f) = true) (hu : A.units < cLine) {Q : Fin → Shared → Prop}
    (h : wpAny (model prog w) A (call (.ref f) [.ref x, b]) (fun v s' => ∃ r, v = .bool r ∧ Q (.done (.ret (.bool (!r)))) s') E s) : wpAny (model prog w) A (Builtin.«object.__ne__» ⟨[.ref x, b], []⟩) Q E s := by
  unfold Builtin.«object.__ne__»
  repeat (first
    | with_reducible refine wpAny_cRoomFor hu ?_
    | (refine wpAny_bind (m := callSpecialIfBound? (.ref x) (Str.ofString "__eq__") [b])
        (PySem.W.ifBound_K hK I hs hf (wpAny_mono h (fun r s' hr => by
          obtain ⟨b, rfl, hq⟩ := hr
          repeat (first | exact hq | exact wpAny_pure hq | exact wpAny_truthy_bool hq | (refine wpAny_bind (m := truthy (.bool _)) (wpAny_truthy_bool ?_)) | wp_step)) fun _ _ e => e)))
    | wp_step)
theorem ne_call (hK : K.In s.heap) (I : PySem.W.InstAt s.heap x ox cA od) (hm : PySem.W.mroIn K cA (.type "object") = some true) (hs : PySem.W.findIn K (.ref cA) "__eq__" = some (some (.ref f))) (hf : PySem.W.isFn K (.ref f) = true) (hu : A.units + 1 < cLine) {Q : Value → Shared → Prop}
    (h : wpAny (model prog w) A.in1 (call (.ref f) [.ref x, b]) (fun v s' => ∃ r, v = .bool r ∧ Q (.bool (!r)) s') E s) : wpAny (model prog w) A (call (.builtin "object.__ne__") [.ref x, b]) Q E s :=
  wpAny_call (codeAny_call_builtin F.cmp_object.ne.plain F.cmpEntry_ne (PySem.W.check_slot F.cmpKind_ne F.cmpSplit_ne (I.type.andThen (PySem.W.looks_mroIn hK hm)) (F.cmpArgs_ne _ _) (ne_body hK I hs hf hu h)))
theorem ne_bound {M : Model} {args : List Value} {Q : Option Value → Shared → Prop} (hK : K.In s.heap) (I : PySem.W.InstAt s.heap x ox cA od) (hs : PySem.W.findIn K (.ref cA) "__ne__" = some (some (.builtin "object.__ne__")))
    (h : wpAny M A (call (.builtin "object.__ne__") (.ref x :: args)) (fun v => Q (some v)) E s) : wpAny M A (callSpecialIfBound? (.ref x) "__ne__" args) Q E s := by
  simp only [callSpecialIfBound?, bindSpecialIfBound?]
  refine wpAny_holding (wpAny_bind (wpAny_bind (wpAny_bind (I.type.here ((PySem.W.looks_findIn hK hs).here ?_)))))
  refine wpAny_bind (wpAny_askSetting (wpAny_ite ?_))
  have fin : wpAny M A (call (.builtin "object.__ne__") ([.ref x] ++ args) >>= fun v => pure (some v)) Q E s := wpAny_bind (wpAny_mono h (fun v s' h' => wpAny_pure h') fun _ _ h' => h')
  split
  · exact wpAny_bind (wpAny_of_eq (F.cmp_object.ne.bind _) (wpAny_pure (by exact fin)))
  · exact wpAny_tryCatch (wpAny_bind (wpAny_of_eq (F.cmp_object.ne.bind _) (wpAny_pure (by exact fin))))
theorem ne_rich {Q : Value → Shared → Prop} (hu : A.units + 1 < cLine) (hK : K.In s.heap) (I : PySem.W.InstAt s.heap x ox cA od) (hb : PySem.W.Looks (model prog w) s.heap (typeOf b) (.ref cA)) (hm : PySem.W.mroIn K cA (.type "object") = some true)
    (hn : PySem.W.findIn K (.ref cA) "__ne__" = some (some (.builtin "object.__ne__"))) (hs : PySem.W.findIn K (.ref cA) "__eq__" = some (some (.ref f))) (hf : PySem.W.isFn K (.ref f) = true)
    (h : wpAny (model prog w) A.in1 (call (.ref f) [.ref x, b]) (fun v s' => ∃ r, v = .bool r ∧ Q (.bool (!r)) s') E s) : wpAny (model prog w) A (richCompare .NotEq (.ref x) b) Q E s := by
  have one : wpAny (model prog w) A (tryCompare (.ref x) "__ne__" b) (fun r s' => ∃ v, r = some v ∧ Q v s') E s := by
    unfold tryCompare
    refine wpAny_bind (ne_bound hK I hn (ne_call hK I hm hs hf hu (wpAny_mono h (fun v s' hv => ?_) fun _ _ e => e)))
    obtain ⟨r, rfl, q⟩ := hv
    exact ⟨r, rfl, wpAny_pure ⟨_, rfl, q⟩⟩
  unfold richCompare
  simp only [oneThing_ref, cmpInfo_NotEq]
  refine wpAny_holding (wpAny_bind (wpAny_cRoomFor (Nat.lt_of_succ_lt hu) ?_))
  refine wpAny_bind (I.type.here (wpAny_bind (hb.here ?_)))
  rw [show (Value.ref cA != Value.ref cA) = false from by simp]
  simp only [Bool.false_eq_true, if_false]
  refine wpAny_bind (wpAny_pure ?_)
  simp only [Bool.false_eq_true, if_false]
  refine wpAny_bind (wpAny_mono one (fun r s' z => ?_) fun _ _ e => e)
  obtain ⟨v, rfl, hq⟩ := z
  exact wpAny_pure hq
end
end Pu
end

section
set_option maxHeartbeats 2000000
namespace Pu
open PySem PySem.Spec PyProof.Rows L2

theorem OutP.neE {α : Type} {o : Out α} {Q : α → Pen → Prop} {E E' : Err → Pen → Prop} (h : OutP o.ne Q E) : OutP o.ne Q E' := by
  cases o with
  | ok a p => exact h
  | err e p => exact h.elim
  | bad => exact h.elim
/-- a class with an own __eq__ -/
structure OwnEq (C : Ctx) (P : Program) (w : World) (base : Heap) (gd : Bool) (c : Str) (k : Nat) (m : FM) : Prop where
  ex : ∃ (cA f : Addr) (fd : FuncData) (ps : List Str), C.mg c = some (.ref cA) ∧ PySem.W.findIn C.K (.ref cA) "__eq__" = some (some (.ref f)) ∧ PySem.W.findIn C.K (.ref cA) "__ne__" = some (some (.builtin "object.__ne__")) ∧ PySem.W.mroIn C.K cA (.type "object") = some true ∧
    PySem.W.isFn C.K (.ref f) = true ∧ Binds C.K fd ps [] ∧ ps.length = 2 ∧ FnA gd P w C.K C.mg base (L2.CX P w) k f fd ps (spM C m 2)
def rEqI (C : Ctx) (cA : Addr) (m : FM) (ng : Bool) : R2 := fun x y H Q => ∃ a b dx dy fs gs, x = .ref a ∧ y = .ref b ∧ H a = some (.ins cA dx fs) ∧ H b = some (.ins cA dy gs) ∧
  spM C m 2 [x, y] H (fun v H' => ∃ r, v = .bl r ∧ Q (.bl (if ng then !r else r)) H') (fun _ _ _ => False)
section
variable {X : Cx} {C : Ctx} {W : WX} {gd gd' : Bool} {k j : Nat} {c : Str} {m : FM}
theorem op_eqI {cA f : Addr} {fd : FuncData} {ps : List Str} (ng : Bool) (w : Wk X C W gd' j) (hk : k + 1 ≤ j) (hgd : gd = true → gd' = true) (h1 : PySem.W.findIn X.K (.ref cA) "__eq__" = some (some (.ref f))) (h2 : PySem.W.findIn X.K (.ref cA) "__ne__" = some (some (.builtin "object.__ne__"))) (h3 : PySem.W.mroIn X.K cA (.type "object") = some true)
    (h4 : PySem.W.isFn X.K (.ref f) = true) (h5 : Binds X.K fd ps []) (F : FnA gd X.prog X.w X.K X.mg X.base (L2.CX X.prog X.w) k f fd ps (spM C m 2)) : OpR X (compareOp (if ng then .NotEq else .Eq)) (rEqI C cA m ng) := by
  intro pins s σ H x y v u Q I rx ry ⟨a, b, dx, dy, fs, gs, hx, hy, ha, hb, sp⟩
  subst hx hy
  cases rx
  cases ry
  obtain ⟨mA, J, _⟩ := ins_get I.hok ha
  obtain ⟨mB, J', _⟩ := ins_get I.hok hb
  obtain ⟨od, J, _⟩ := J.look
  obtain ⟨od', J', _⟩ := J'.look
  obtain ⟨m', hF⟩ := I.fr
  have hu : X.A.units + 1 < cLine := by
    have := w.hu
    omega
  have run : ∀ (A : Around), Room k A → A.guards = X.A.guards → A.frames = X.A.frames → ∀ (Q1 : Value → Shared → Prop), (∀ r s', (∃ H', Inv X pins σ H' s' ∧ Q (.bl (if ng then !r else r)) H') → Q1 (.bool r) s') → wpAny (model X.prog X.w) A (call (.ref f) [.ref a, .ref b]) Q1 X.xe s := by
    intro A hr hg hf Q1 hQ
    have e0 : Env0 X.prog X.w X.K X.mg X.base A X.stack s H := by
      have e := I.env0
      exact ⟨by rw [hf]; exact e.frames, e.mod, e.bs, e.bsz, e.funs, e.frf, e.hok, e.bare⟩
    have hl := F.len _ _ _ _ sp
    have r2 : Vals [V.ref a, V.ref b] [Value.ref a, Value.ref b] := .cons rfl (.cons rfl .nil)
    refine wpAny_call (codeAny_mono (F.run A X.stack s H ⟨[.ref a, .ref b], []⟩ [.ref a, .ref b] [.ref a, .ref b] _ _ hr (fun e => hg.trans (w.gd (hgd e))) e0 (by
      have := h5 s [.ref a, .ref b] I.kIn (by simpa using hl)
      simpa using this) r2 sp) fun r s' hq => ?_)
    cases r with
    | error e => exact w.tk e s' (XE.of_call I (fun cls d H2 h => h.elim) hq)
    | ok fl =>
      cases fl with
      | ret u =>
        obtain ⟨z, H', I', rz, r, ez, q⟩ := I.after hq
        subst ez
        cases rz
        exact hQ r s' ⟨H', I', q⟩
      | next => exact False.elim hq
      | brk => exact False.elim hq
      | cont => exact False.elim hq
  cases ng with
  | false =>
    show wpAny (model X.prog X.w) X.A (richCompare .Eq (.ref a) (.ref b)) (EP X pins σ Q) X.xe s
    refine PySem.W.cmp_K (op := .Eq) (tb := .ref cA) (Nat.lt_of_succ_lt hu) hF I.ok.mod.kin J J'.type (by simp [PySem.W.notFirst]) h1 h4 ?_
    exact run X.A (w.room.mono (by omega)) rfl rfl _ fun r s' ⟨H', I', q⟩ => ⟨.bl r, H', I', rfl, q⟩
  | true =>
    show wpAny (model X.prog X.w) X.A (richCompare .NotEq (.ref a) (.ref b)) (EP X pins σ Q) X.xe s
    refine ne_rich hu I.kIn J J'.type h3 h2 h1 h4 ?_
    exact run X.A.in1 (w.room.mono hk).in1 rfl rfl _ fun r s' ⟨H', I', q⟩ => ⟨r, rfl, .bl (!r), H', I', rfl, q⟩
/-- == (ng: !=) of two instances by their class's own __eq__; else as of data -/
def kEqN (ng : Bool) : D → D → Option D := if ng then kNe else kEq
def kEqIns (m : FM) (ng : Bool) (d e : D) (p : Pen) : Out D := (m [d, e] p).ne.bind fun z q => match z with
  | .bl b => .ok (.bl (if ng then !b else b)) q
  | _ => .bad
def mEqI (c : Str) (m : FM) (ng : Bool) (ma mb : EM) : EM := fun env p => (ma env p).bind fun d p1 => (mb env p1).bind fun e p2 => match d, e with
  | .obj c1 f1, .obj c2 f2 => if c1 = c ∧ c2 = c then kEqIns m ng (.obj c1 f1) (.obj c2 f2) p2 else .bad
  | d, e => match kEqN ng d e with
    | some z => .ok z p2
    | none => .bad
theorem rd_eqI {cA : Addr} {ma mb : EM} {ng : Bool} {r : R2} (hr : OpOk C r (kEqN ng)) (hc : C.mg c = some (.ref cA)) {σ : St} {H : Hp} {Q : VK} (h : rE C W (mEqI c m ng ma mb) σ H Q) : tOp (fun x y H Q => rEqI C cA (fun ds q => (m ds q).ne) ng x y H Q ∨ r x y H Q) (rB C W ma) (rB C W mb) σ H Q := by
  obtain ⟨G, env, p, L, o⟩ := h
  refine ⟨G, env, p, L, o.bind.imp (fun d q z v G1 H1 x1 y1 r1 => ?_) fun _ _ z => z⟩
  refine ⟨G1, env, q, L.step x1 y1, z.bind.imp (fun e q2 z2 w G2 H2 x2 y2 r2 => ?_) fun _ _ z => z.step x1⟩
  have L2 := (L.step x1 y1).step x2 y2
  have dat : ∀ {d e : D}, OutP (match kEqN ng d e with
      | some z => Out.ok z q2
      | none => .bad) (fun d q => ∀ (v : V) (G' H' : Hp), Ext C G H G' H' → PenAt C G' H' q → Rep C G' v d → Q v H') (ErrP C W G H σ) → BRep C G2 σ env v d → BRep C G2 σ env w e → r v w H2 Q := by
    intro d e z2 r1 r2
    cases ek : kEqN ng d e with
    | none =>
      rw [ek] at z2
      exact z2.elim
    | some u =>
      rw [ek] at z2
      exact hr G2 H2 σ env q2 v w d e u Q L2 r1 r2 ek fun x G' H' al rx => z2 x G' H' ((x1.trans x2).trans (L2.ext al)) (y2.alc al) rx
  have r1' := r1.mono x2.gro
  cases d with
  | obj c1 f1 =>
    cases e with
    | obj c2 f2 =>
      by_cases hcc : c1 = c ∧ c2 = c
      · have z3 : OutP (if c1 = c ∧ c2 = c then kEqIns m ng (.obj c1 f1) (.obj c2 f2) q2 else .bad) _ _ := z2
        rw [if_pos hcc] at z3
        unfold kEqIns at z3
        obtain ⟨rfl, rfl⟩ := hcc
        rcases r1' with r1' | ⟨_, _, _, _, e2, _⟩
        · rcases r2 with r2 | ⟨_, _, _, _, e2, _⟩
          · cases r1' with
            | @obj a dx cA1 _ fvs _ mm hG rr =>
              cases r2 with
              | @obj b dy cA2 _ gvs _ mm2 hG2 rr2 =>
                rw [hc] at mm mm2
                cases mm
                cases mm2
                refine .inl ⟨a, b, dx, dy, fvs, gvs, rfl, rfl, L2.sub _ _ hG, L2.sub _ _ hG2, G2, [.obj _ f1, .obj _ f2], q2, rfl, L2.sub, L2.tab, L2.nt, L2.pen, .cons (.obj hc hG rr) (.cons (.obj hc hG2 rr2) .nil), ?_⟩
                refine OutP.neE ((OutP.bind z3).imp (fun d q z4 v3 G3 H3 x3 y3 r3 => ?_) fun _ _ z => z)
                cases d with
                | bl bb =>
                  cases r3
                  exact ⟨bb, rfl, z4 _ G3 H3 ((x1.trans x2).trans x3) y3 (.bl _)⟩
                | _ => exact z4.elim
          · cases e2
        · cases e2
      · have z3 : OutP (if c1 = c ∧ c2 = c then kEqIns m ng (.obj c1 f1) (.obj c2 f2) q2 else .bad) _ _ := z2
        rw [if_neg hcc] at z3
        exact z3.elim
    | _ => exact .inr (dat z2 r1' r2)
  | _ => exact .inr (dat z2 r1' r2)
end
section
variable {X : Cx} {C : Ctx} {W : WX} {gd gd' : Bool} {k j : Nat} {c : Str} {m : FM} {a b : Expr} {ma mb : EM} {pos : Pos}
theorem rm_eqI (ng : Bool) (w : Wk X C W gd' j) (F : OwnEq C X.prog X.w X.base gd c k m) (hk : k + 1 ≤ j) (hgd : gd = true → gd' = true) : ∃ cA r, C.mg c = some (.ref cA) ∧ OpOk C r (kEqN ng) ∧ OpR X (compareOp (if ng then .NotEq else .Eq)) (fun x y H Q => rEqI C cA (fun ds q => (m ds q).ne) ng x y H Q ∨ r x y H Q) := by
  obtain ⟨cA, f, fd, ps, h0, h1, h2, h3, h4, h5, h6, F⟩ := F.ex
  rw [w.K] at h1 h2 h3 h4 h5 F
  rw [w.mg] at F
  have F2 : FnA gd X.prog X.w X.K X.mg X.base (L2.CX X.prog X.w) k f fd ps (spM C (fun ds q => (m ds q).ne) 2) := ⟨fun vs H Q E ⟨_, _, _, h, _⟩ => h.trans h6.symm, fun A outer s H args us vs Q E hr hg e0 hb rv ⟨G, ds, p, a1, a2, a3, a4, a5, a6, a7⟩ => F.run A outer s H args us vs Q E hr hg e0 hb rv ⟨G, ds, p, a1, a2, a3, a4, a5, a6, by
    have a8 : OutP (m ds p).ne _ _ := a7
    cases e : m ds p with
    | ok d q =>
      rw [e] at a8
      exact a8
    | err er q =>
      rw [e] at a8
      exact a8.elim
    | bad =>
      rw [e] at a8
      exact a8.elim⟩⟩
  cases ng with
  | false => exact ⟨cA, rEqD X.K, h0, ok_eq, OpR.or (op_eqI false w hk hgd h1 h2 h3 h4 h5 F2) (op_eqD w.hu)⟩
  | true => exact ⟨cA, rNeD X.K, h0, ok_ne, OpR.or (op_eqI true w hk hgd h1 h2 h3 h4 h5 F2) (op_neD w.hu)⟩
theorem pm_eqI (w : Wk X C W gd' j) (F : OwnEq C X.prog X.w X.base gd c k m) (hk : k + 1 ≤ j) (hgd : gd = true → gd' = true) (ha : PE X a (rB C W ma)) (hb : PE X b (rB C W mb)) : PE X (.Compare a [.Eq] [b] pos) (rE C W (mEqI c m false ma mb)) := by
  obtain ⟨cA, r, h0, h1, h2⟩ := rm_eqI false w F hk hgd
  exact (pe_cmpR h2 ha hb (nomark _)).of fun _ _ _ h => rd_eqI h1 h0 h
theorem pm_neI (w : Wk X C W gd' j) (F : OwnEq C X.prog X.w X.base gd c k m) (hk : k + 1 ≤ j) (hgd : gd = true → gd' = true) (ha : PE X a (rB C W ma)) (hb : PE X b (rB C W mb)) : PE X (.Compare a [.NotEq] [b] pos) (rE C W (mEqI c m true ma mb)) := by
  obtain ⟨cA, r, h0, h1, h2⟩ := rm_eqI true w F hk hgd
  exact (pe_cmpR h2 ha hb (nomark _)).of fun _ _ _ h => rd_eqI h1 h0 h
theorem tm_eqI (w : Wk X C W gd' j) (F : OwnEq C X.prog X.w X.base gd c k m) (hk : k + 1 ≤ j) (hgd : gd = true → gd' = true) (ha : PE X a (rB C W ma)) (hb : PE X b (rB C W mb)) : PT X (.Compare a [.Eq] [b] pos) (rT C W (mT (mEqI c m false ma mb))) := by
  obtain ⟨cA, r, h0, h1, h2⟩ := rm_eqI false w F hk hgd
  exact (pt_cmpR h2 ha hb (nomark _)).of fun _ _ _ h => rd_eqI h1 h0 (rd_test h)
theorem tm_neI (w : Wk X C W gd' j) (F : OwnEq C X.prog X.w X.base gd c k m) (hk : k + 1 ≤ j) (hgd : gd = true → gd' = true) (ha : PE X a (rB C W ma)) (hb : PE X b (rB C W mb)) : PT X (.Compare a [.NotEq] [b] pos) (rT C W (mT (mEqI c m true ma mb))) := by
  obtain ⟨cA, r, h0, h1, h2⟩ := rm_eqI true w F hk hgd
  exact (pt_cmpR h2 ha hb (nomark _)).of fun _ _ _ h => rd_eqI h1 h0 (rd_test h)
end
end Pu
end

section
set_option maxHeartbeats 2000000
namespace Pu
open PySem PySem.Spec PyProof.Rows L2

/-! ### len(x), x an instance with an own __len__ -/
structure OwnLen (C : Ctx) (P : Program) (w : World) (base : Heap) (gd : Bool) (c : Str) (k : Nat) (m : FM) : Prop where
  ex : ∃ (cA f : Addr) (fd : FuncData) (ps : List Str), C.mg c = some (.ref cA) ∧ PySem.W.findIn C.K (.ref cA) "__len__" = some (some (.ref f)) ∧ PySem.W.isFn C.K (.ref f) = true ∧ Binds C.K fd ps [] ∧ ps.length = 1 ∧ FnA gd P w C.K C.mg base (L2.CX P w) k f fd ps (spM C m 1)
def rLenI (C : Ctx) (cA : Addr) (m : FM) : List V → Hp → VK → Prop := fun xs H Q => ∃ a dx fs, xs = [.ref a] ∧ H a = some (.ins cA dx fs) ∧ spM C m 1 [.ref a] H (fun v H' => ∃ n : Int, v = .int n ∧ (0 ≤ n ∧ n < 2 ^ 63) ∧ Q (.int n) H') (fun _ _ _ => False)
def kLenBack (o : Out D) : Out D := o.ne.bind fun z q => match z with
  | .int n => if 0 ≤ n ∧ n < 2 ^ 63 then .ok (.int n) q else .bad
  | _ => .bad
def mLenI (c : Str) (m : FM) (me : EM) : EM := fun env p => (me env p).bind fun d q => match d with
  | .obj c1 fs => if c1 = c then kLenBack (m [.obj c1 fs] q) else .bad
  | _ => .bad
theorem FnA.quiet {C : Ctx} {P : Program} {w : World} {base : Heap} {gd : Bool} {k n : Nat} {f : Addr} {fd : FuncData} {ps : List Str} {m : FM} (hl : ps.length = n) (F : FnA gd P w C.K C.mg base (L2.CX P w) k f fd ps (spM C m n)) : FnA gd P w C.K C.mg base (L2.CX P w) k f fd ps (spM C (fun ds q => (m ds q).ne) n) :=
  ⟨fun vs H Q E ⟨_, _, _, h, _⟩ => h.trans hl.symm, fun A outer s H args us vs Q E hr hg e0 hb rv ⟨G, ds, p, a1, a2, a3, a4, a5, a6, a7⟩ => F.run A outer s H args us vs Q E hr hg e0 hb rv ⟨G, ds, p, a1, a2, a3, a4, a5, a6, by
    have a8 : OutP (m ds p).ne _ _ := a7
    cases e : m ds p with
    | ok d q =>
      rw [e] at a8
      exact a8
    | err er q =>
      rw [e] at a8
      exact a8.elim
    | bad =>
      rw [e] at a8
      exact a8.elim⟩⟩
section
variable {X : Cx} {C : Ctx} {W : WX} {gd gd' : Bool} {k j : Nat} {c : Str} {m : FM} {e : Expr} {me : EM} {pos p : Pos}
theorem call_lenI {cA f : Addr} {fd : FuncData} {ps : List Str} (w : Wk X C W gd' j) (hk : k + 1 ≤ j) (hgd : gd = true → gd' = true) (h1 : PySem.W.findIn X.K (.ref cA) "__len__" = some (some (.ref f))) (h4 : PySem.W.isFn X.K (.ref f) = true) (h5 : Binds X.K fd ps [])
    (F : FnA gd X.prog X.w X.K X.mg X.base (L2.CX X.prog X.w) k f fd ps (spM C m 1)) : CallR X (.builtin "len") (rLenI C cA m) := by
  intro pins s σ H xs us Q I r ⟨a, dx, fs, hx, ha, sp⟩
  subst hx
  obtain ⟨u, rfl, rx⟩ := vals1 r
  cases rx
  obtain ⟨mA, J, _⟩ := ins_get I.hok ha
  obtain ⟨od, J, _⟩ := J.look
  obtain ⟨m', hF⟩ := I.fr
  refine PySem.W.len_K hF I.ok.mod.kin J h1 h4 ?_
  have hl := F.len _ _ _ _ sp
  have r2 : Vals [V.ref a] [Value.ref a] := .cons rfl .nil
  refine wpAny_call (codeAny_mono (F.run X.A.in1 X.stack s H ⟨[.ref a], []⟩ [.ref a] [.ref a] _ _ (w.room.mono hk).in1 (fun e => w.gd (hgd e)) I.env0.in1 (by
    have := h5 s [.ref a] I.kIn (by simpa using hl)
    simpa using this) r2 sp) fun r s' hq => ?_)
  cases r with
  | error e => exact w.tk e s' (XE.of_call I (fun cls d H2 h => h.elim) hq)
  | ok fl =>
    cases fl with
    | ret u =>
      obtain ⟨z, H', I', rz, n, ez, hn, q⟩ := I.after hq
      subst ez
      obtain ⟨t, rfl⟩ := rz
      exact ⟨hn, .int n, H', I'.tok _, ⟨_, rfl⟩, q⟩
    | next => exact False.elim hq
    | brk => exact False.elim hq
    | cont => exact False.elim hq
theorem pm_lenI (w : Wk X C W gd' j) (F : OwnLen C X.prog X.w X.base gd c k m) (hk : k + 1 ≤ j) (hgd : gd = true → gd' = true) (hm : X.mg "len" = none) (h : PE X e (rE C W me)) (hg : Gl X "len" := by rfl) (hs : starEach [e] X.env = (false, eval e X.env) :: starEach [] X.env := by rfl) (hpl : (backTo pos (starEach [] X.env)).any (·.1) = false := by rfl) :
    PE X (.Call (.Name "len" p) [e] [] pos) (rE C W (mLenI c m me)) := by
  obtain ⟨cA, f, fd, ps, h0, h1, h4, h5, h6, F⟩ := F.ex
  rw [w.K] at h1 h4 h5 F
  rw [w.mg] at F
  have F2 : FnA gd X.prog X.w X.K X.mg X.base (L2.CX X.prog X.w) k f fd ps (spM C (fun ds q => (m ds q).ne) 1) := by
    rw [← w.K, ← w.mg] at F ⊢
    exact F.quiet h6
  refine (pe_callB (call_lenI w hk hgd h1 h4 h5 F2) hg hm PySem.boot_len (am_cons h am_nil hs) (by decide) (by decide) hs hpl).of fun σ H Q ⟨G, env, p0, L, o⟩ => ?_
  refine ⟨G, env, p0, L, ?_⟩
  have o2 := o.bind
  show OutP ((me env p0).bind fun d q => (aNil env q).bind fun ds q2 => .ok (d :: ds) q2) _ _
  refine OutP.mk (o2.imp (fun d q z vs G1 H1 x1 y1 r1 => ?_) fun _ _ z => z)
  cases r1 with
  | @cons v _ _ _ r1 t =>
    cases t
    cases d with
    | obj c1 fs =>
      have z1 : OutP (if c1 = c then kLenBack (m [.obj c1 fs] q) else .bad) _ _ := z
      by_cases hc : c1 = c
      · rw [if_pos hc] at z1
        subst hc
        unfold kLenBack at z1
        cases r1 with
        | @obj a dx cA1 _ fvs _ mm hG rr =>
          rw [h0] at mm
          cases mm
          have L1 := L.step x1 y1
          refine ⟨a, dx, fvs, rfl, x1.sub _ _ hG, G1, [.obj c1 fs], q, rfl, x1.sub, x1.tab, L1.nt, y1, .cons (.obj h0 hG rr) .nil, OutP.neE ((OutP.bind z1).imp (fun d2 q2 z2 v2 G2 H2 x2 y2 r2 => ?_) fun _ _ z => z)⟩
          cases d2 with
          | int n =>
            have z3 : OutP (if 0 ≤ n ∧ n < 2 ^ 63 then Out.ok (D.int n) q2 else .bad) _ _ := z2
            cases r2
            by_cases hn : 0 ≤ n ∧ n < 2 ^ 63
            · rw [if_pos hn] at z3
              exact ⟨n, rfl, hn, z3 _ G2 H2 (x1.trans x2) y2 (.int _)⟩
            · rw [if_neg hn] at z3
              exact z3.elim
          | _ => exact z2.elim
      · rw [if_neg hc] at z1
        exact z1.elim
    | _ => exact z.elim
end
end Pu
end

section
set_option maxHeartbeats 4000000
/-! ### sorted(t), t a tuple of ints -/
namespace SrtT
open PySem PyProof.Rows Srt SrtO
section
variable {prog : Program} {w : World} {A : Around} {E : Value → Shared → Prop} {s : Shared} {t : Addr} {vs : List Value}
theorem col_tup {Q : List Value → Shared → Prop} (ht : s.heap.IsTuple t vs.toArray) (hz : vs.length ≤ sizeLine) (h : Q vs { s with heap := (s.heap.push (seqObj "list" #[] 0)).update s.heap.objs.size (Obj.mapSeq (· ++ vs.toArray)) }) :
    wpAny (model prog w) A (collect (.ref t)) Q E s := by
  obtain ⟨o, ho, hcls, n, hdat⟩ := id ht
  have up : (s.heap.push (seqObj "list" #[] 0)).get? t = some o := Heap.get?_push_of_some _ ho
  unfold collect
  refine wpAny_bind (wpAny_runValue (codeAny_builtin entry_proto_collect' ?_))
  change wpAny _ _ (newList [] >>= fun l => again (.builtin "list.__iadd__" ⟨[l, .ref t], []⟩)) _ _ s
  refine wpAny_bind (wpAny_newList (wpAny_pure ⟨Code.quiet_builtin _ (by decide +kernel), codeAny_builtin entry_list_iadd' ?_⟩))
  change wpAny _ _ (Builtin.List.listExtendWith _ (.ref t) _) _ _ _
  unfold Builtin.List.listExtendWith
  refine wpAny_bind (wpAny_typeOf (T := "tuple") ⟨o, up, hcls⟩ ?_)
  rw [if_pos (by simp)]
  refine wpAny_bind (listItems_at up hdat ?_)
  refine wpAny_bind (listItems_at (n := 0) (xs := #[]) (Heap.get?_push_size _ rfl) rfl ?_)
  rw [if_neg (by simp)]
  refine wpAny_bind (listUpdate_at (n := 0) (xs := #[]) (Heap.get?_push_size _ rfl) rfl ?_ (Nat.zero_le _) (by simp only [Array.size_append, List.size_toArray, List.length_nil]; omega))
  refine wpAny_pure ?_
  refine wpAny_bind (wpAny_load (get?_update_seq (Heap.get?_push_size _ rfl) _) ?_)
  change wpAny _ _ (pure ((#[] : Array Value) ++ vs.toArray).toList) _ _ _
  have e : ((#[] : Array Value) ++ vs.toArray).toList = vs := by simp
  rw [e]
  exact wpAny_pure h
theorem sorted_tup {ltv : Value → Value → Bool} {Q : Value → Shared → Prop} (O : Swo ltv) (ht : s.heap.IsTuple t vs.toArray) (hz : vs.length ≤ sizeLine) (hS : 2 ≤ vs.length → ∀ (h₁ : Heap) (a : Addr), SortableO prog w A.in1.in1 { s with heap := h₁ } a vs ltv)
    (h : ∀ out : List Value, Srtd ltv out → Stb ltv out vs → Q (.ref (s.heap.objs.size + 1)) { s with heap := sortedAll s.heap vs out.toArray }) : wpAny (model prog w) A (call (.builtin "sorted") [.ref t]) Q E s := by
  refine Calls.call_function_entry kind_sorted plain_sorted entry_sorted (args_sorted1 _) ?_
  unfold Builtin.«sorted»
  refine wpAny_bind (m := checkCount "sorted" 1 1 _) (wpAny_pure (wpAny_bind (col_tup ht hz (wpAny_bind (wpAny_newList ?_ hz)))))
  have size : ((s.heap.push (seqObj "list" #[] 0)).update s.heap.objs.size (Obj.mapSeq (· ++ vs.toArray))).objs.size = s.heap.objs.size + 1 := by
    rw [Heap.size_update, size_push']
  have there : (((s.heap.push (seqObj "list" #[] 0)).update s.heap.objs.size (Obj.mapSeq (· ++ vs.toArray))).push (seqObj "list" vs.toArray 0)).get? (s.heap.objs.size + 1) = some (seqObj "list" vs.toArray 0) := by
    rw [← size]
    exact Heap.get?_push_size _ rfl
  change wpAny _ _ _ _ _ { s with heap := ((s.heap.push (seqObj "list" #[] 0)).update s.heap.objs.size (Obj.mapSeq (· ++ vs.toArray))).push (seqObj "list" vs.toArray 0) }
  rw [size]
  have srt := list_sort_ord (prog := prog) (w := w) (A := A.in1.in1) (E := E) (s := { s with heap := ((s.heap.push (seqObj "list" #[] 0)).update s.heap.objs.size (Obj.mapSeq (· ++ vs.toArray))).push (seqObj "list" vs.toArray 0) }) (R := fun f s' => f = .done (.ret .none) ∧ s'.heap = s'.heap ∧ ∃ out : List Value, Srtd ltv out ∧ Stb ltv out vs ∧ s' = { s with heap := sortedAll s.heap vs out.toArray }) O there hz (fun h2 => hS h2 _ _) fun out a b => ⟨rfl, rfl, out, a, b, rfl⟩
  refine wpAny_bind (wpAny_holding (wpAny_call_entry slot_list_sort ⟨_, there, rfl⟩ entry_list_sort (wpAny_mono srt (fun f s' z => ?_) fun _ _ e => e) (args_list_sort _)))
  obtain ⟨rfl, _, out, a, b, rfl⟩ := z
  exact ⟨_, rfl, wpAny_pure ⟨_, rfl, h out a b⟩⟩
end
end SrtT
namespace Pu
open PySem PySem.Spec PyProof.Rows L2
def rSortT (K : PySem.W.Frag) : List V → Hp → VK → Prop := fun vs H Q => ∃ (a : Addr) (ns : List Int), vs = [V.ref a] ∧ SqT K H a (ns.map V.int) ∧ ∀ (ns' : List Int) (p : Addr), ns'.Perm ns → ns'.Pairwise (· ≤ ·) → H p = none → Q (.ref p) (upd H p (.lst (ns'.map V.int)))
theorem cr_sortT {X : Cx} : CallR X (.builtin "sorted") (rSortT X.K) := by
  intro pins s σ H vs us Q I r ⟨a, ns, hx, hs, q⟩
  subst hx
  obtain ⟨its, rv, ht, hz⟩ := I.tuple hs
  obtain ⟨u, rfl, rx⟩ := vals1 r
  cases rx
  have hi := rv.ints
  refine SrtT.sorted_tup SrtO.swo_int ht (by rw [← rv.length]; exact hz) (fun h2 h₁ a' => SrtO.ints_sortable hi h2) fun out h1 h2 => ?_
  obtain ⟨k1, k2, k3⟩ := SrtO.ints_out hi h1 h2
  obtain ⟨ep, he⟩ := PyProof.Rows.sortedAll_at s.heap its out.toArray
  have len : ((out.map SrtO.iv).map V.int).length ≤ sizeLine := by
    rw [List.length_map] at hz ⊢
    rw [k2.length_eq]
    exact hz
  refine ⟨.ref (s.heap.objs.size + 1), upd H (s.heap.objs.size + 1) (.lst ((out.map SrtO.iv).map V.int)), ?_, rfl, q _ _ k2 k3 (I.hok.fresh (Nat.le_succ _))⟩
  exact I.laid (t' := s.toks) (fun _ _ => PyProof.Rows.sortedAll_old) (Nat.le_succ _) ⟨len, out, ep, vals_of_ints k1, he⟩
/-- sorted(xs) of ints -/
def srt (ns : List Int) : List Int := ns.mergeSort fun x y => decide (x ≤ y)
theorem srt_one {a b : List Int} (h : a.Perm b) (ha : a.Pairwise (· ≤ ·)) : a = srt b := by
  refine List.Perm.eq_of_pairwise (fun x y _ _ (h1 : x ≤ y) (h2 : y ≤ x) => by omega) ha ?_ (h.trans (List.mergeSort_perm b _).symm)
  have hs := List.pairwise_mergeSort (le := fun x y : Int => decide (x ≤ y)) (fun x y z p q => by simp only [decide_eq_true_eq] at *; omega) (fun x y => by simp only [Bool.or_eq_true, decide_eq_true_eq]; omega) b
  unfold srt
  simpa using hs
def kSorted (ds : List D) : Option (List D) := match ds with
  | [d] => match d.items with
    | some xs => (intsD xs).map fun ns => (srt ns).map D.int
    | none => none
  | _ => none
theorem ok_sorted {C : Ctx} {K : PySem.W.Frag} : FCallOk C (fun vs H Q => rSortedI K vs H Q ∨ rSortT K vs H Q) kSorted := by
  intro G H σ env p vs ds z Q L r ek q
  unfold kSorted at ek
  split at ek
  · split at ek
    · rename_i d xs hx
      cases ei : intsD xs with
      | none =>
        rw [ei] at ek
        cases ek
      | some ns =>
        rw [ei] at ek
        cases ek
        obtain ⟨v, rfl, rv⟩ := r.one
        have e := intsD_eq ei
        subst e
        obtain ⟨a, ws, rfl, hH, rs⟩ := rv.seq L (D.items_or hx)
        rw [Reps.of_ints rs] at hH
        have fin : ∀ (ns' : List Int) (p : Addr), ns'.Perm ns → ns'.Pairwise (· ≤ ·) → H p = none → Q (.ref p) (upd H p (.lst (ns'.map V.int))) := fun ns' p hp hs hn => by
          rw [srt_one hp hs]
          exact q p _ hn (Reps.ints _)
        rcases hH with hH | hH
        · exact .inl ⟨a, ns, rfl, SqL.of hH, fin⟩
        · exact .inr ⟨a, ns, rfl, SqT.of hH, fin⟩
    · cases ek
  · cases ek
section
variable {X : Cx} {C : Ctx} {W : WX} {e : Expr} {m : EM} {pos p : Pos}
theorem pm_sorted (hm : X.mg "sorted" = none) (h : PE X e (rB C W m)) (hg : Gl X "sorted" := by rfl) (hs : starEach [e] X.env = (false, eval e X.env) :: starEach [] X.env := by rfl) (hpl : (backTo pos (starEach [] X.env)).any (·.1) = false := by rfl) : PE X (.Call (.Name "sorted" p) [e] [] pos) (rF C W (mFCall kSorted (aCons m aNil))) :=
  pm_cbF ok_sorted (CallR.or cr_sortedI cr_sortT) hm (by with_unfolding_all rfl) (bm_cons h bm_nil hs) hg (by decide) (by decide) hs hpl
end
end Pu
end

section
set_option maxHeartbeats 4000000
/-! ### sum, max, min of a tuple of ints -/
namespace TupInts
open PySem PyProof.Rows
section
variable {prog : Program} {w : World} {A : Around} {E : Value → Shared → Prop} {s : Shared} {l : Addr} {xs : Array (Int × Tok)}
theorem it_tup {Q : Value → Shared → Prop} (hl : s.heap.IsTuple l (intItems xs))
    (h : ∀ s₂ : Shared, s₂ = { s with heap := s.heap.push { cls := .type "tuple_iterator", data := .fields #[.ref l, .int 0 0] } } → (s₂.heap.IsTupleIter s.heap.objs.size l 0 ∧ s₂.heap.IsTuple l (intItems xs)) → (∀ b ∈ [s.heap.objs.size, l], b < s₂.heap.objs.size) → l ≠ s.heap.objs.size →
      Q (.ref s.heap.objs.size) s₂) : wpAny (model prog w) A (pyIter (.ref l)) Q E s := by
  have below : l < s.heap.objs.size := hl.elim fun _ e => Heap.lt_size e.1
  refine wpAny_pyIter_tuple hl (h _ rfl ⟨⟨_, Heap.get?_push_size _ rfl, rfl, rfl⟩, hl.push _⟩ ?_ (Nat.ne_of_lt below))
  intro b hb
  show b < (s.heap.push _).objs.size
  rw [Heap.size_push]
  simp only [List.mem_cons, List.not_mem_nil, or_false] at hb
  rcases hb with e | e
  · rw [e]
    exact Nat.lt_succ_self _
  · rw [e]
    exact Nat.lt_succ_of_lt below
theorem keepT {h h' : Heap} {o0 : Obj} (hk : ∀ b o, b ∉ [h.objs.size] → (h.push o0).get? b = some o → h'.get? b = some o) : ∀ b o, h.get? b = some o → h'.get? b = some o := fun b o e => hk b o (by
  rw [List.mem_singleton]
  exact Nat.ne_of_lt (Heap.lt_size e)) (Heap.get?_push_of_some _ e)
theorem sum_t {Q : Value → Shared → Prop} (hh : A.handled = none) (hl : s.heap.IsTuple l (intItems xs)) (h : ∀ h' tk t', (∀ b o, s.heap.get? b = some o → h'.get? b = some o) → Q (.int (preSum (numAt xs) xs.size) t') { s with heap := h', toks := tk }) :
    wpAny (model prog w) A (call (.builtin "sum") [.ref l]) Q E s := by
  refine call_sum_walkG (it_tup hl fun s₂ e st hfp hne => ?_)
  subst e
  exact ⟨_, _, _, _, _, _, numAt xs, rfl, Walks.tuple (A := A.in1) hh _ l hne (intItems xs), st, hfp, fun _ _ => intItems_at, fun h' tk t' hk => by simpa [intItems] using h h' tk t' (keepT hk)⟩
theorem max_t {Q : Value → Shared → Prop} (hh : A.handled = none) (hl : s.heap.IsTuple l (intItems xs)) (hne : 0 < xs.size) (h : ∀ v h' tk, (intItems xs)[argBest (fun i j => decide (numAt xs i > numAt xs j)) (xs.size - 1)]? = some v → (∀ b o, s.heap.get? b = some o → h'.get? b = some o) → Q v { s with heap := h', toks := tk }) :
    wpAny (model prog w) A (call (.builtin "max") [.ref l]) Q E s := by
  refine call_max_walk (it_tup hl fun s₂ e st hfp hn => ?_)
  subst e
  exact ⟨_, _, _, _, _, _, _, rfl, Walks.tuple (A := A.in1) hh _ l hn (intItems xs), st, hfp, by simpa [intItems] using hne, CmpOf.ints_gt (numAt xs) (fun _ _ => intItems_at), fun v h' tk hP hk => h v h' tk (by simpa [intItems] using hP) (keepT hk)⟩
theorem min_t {Q : Value → Shared → Prop} (hh : A.handled = none) (hl : s.heap.IsTuple l (intItems xs)) (hne : 0 < xs.size) (h : ∀ v h' tk, (intItems xs)[argBest (fun i j => decide (numAt xs i < numAt xs j)) (xs.size - 1)]? = some v → (∀ b o, s.heap.get? b = some o → h'.get? b = some o) → Q v { s with heap := h', toks := tk }) :
    wpAny (model prog w) A (call (.builtin "min") [.ref l]) Q E s := by
  refine call_min_walk (it_tup hl fun s₂ e st hfp hn => ?_)
  subst e
  exact ⟨_, _, _, _, _, _, _, rfl, Walks.tuple (A := A.in1) hh _ l hn (intItems xs), st, hfp, by simpa [intItems] using hne, CmpOf.ints_lt (numAt xs) (fun _ _ => intItems_at), fun v h' tk hP hk => h v h' tk (by simpa [intItems] using hP) (keepT hk)⟩
variable {its : List Value} {ns : List Int} {Q : Value → Shared → Prop}
theorem sum_of (hh : A.handled = none) (hl : s.heap.IsTuple l its.toArray) (hi : IntsAre its ns) (h : ∀ h' tk t', (∀ b o, s.heap.get? b = some o → h'.get? b = some o) → Q (.int ns.sum t') { s with heap := h', toks := tk }) :
    wpAny (model prog w) A (call (.builtin "sum") [.ref l]) Q E s := by
  obtain ⟨xs, e⟩ := hi.allInts.items
  have n1 : numsOf (intItems xs).toList = ns := e ▸ hi.numsOf
  rw [nums_intItems] at n1
  rw [e] at hl
  refine sum_t hh hl fun h' tk t' hk => ?_
  rw [preSum_eq, List.take_of_length_le (by simp), n1]
  exact h h' tk t' hk
theorem max_of (hh : A.handled = none) (hl : s.heap.IsTuple l its.toArray) (hi : IntsAre its ns) (hne : 0 < ns.length)
    (h : ∀ h' tk M t', (∀ b o, s.heap.get? b = some o → h'.get? b = some o) → M ∈ ns → (∀ a ∈ ns, a ≤ M) → Q (.int M t') { s with heap := h', toks := tk }) : wpAny (model prog w) A (call (.builtin "max") [.ref l]) Q E s := by
  obtain ⟨xs, e⟩ := hi.allInts.items
  have n1 : numsOf (intItems xs).toList = ns := e ▸ hi.numsOf
  rw [nums_intItems] at n1
  subst n1
  rw [e] at hl
  refine max_t hh hl (by simpa using hne) fun v h' tk hv hk => ?_
  obtain ⟨t, rfl⟩ := intItems_at hv
  have hne' : 0 < xs.size := by simpa using hne
  obtain ⟨h1, h2⟩ := argBest_gt (numAt xs) (xs.size - 1)
  refine h h' tk _ t hk (by rw [numAt_eq]; exact PySem.getD_mem (by simp only [List.length_map, Array.length_toList]; omega)) fun a ha => ?_
  obtain ⟨j, hj, rfl⟩ := mem_getD ha
  simp only [List.length_map, Array.length_toList] at hj
  have := h2 j (by omega)
  rwa [numAt_eq xs j] at this
theorem min_of (hh : A.handled = none) (hl : s.heap.IsTuple l its.toArray) (hi : IntsAre its ns) (hne : 0 < ns.length)
    (h : ∀ h' tk M t', (∀ b o, s.heap.get? b = some o → h'.get? b = some o) → M ∈ ns → (∀ a ∈ ns, M ≤ a) → Q (.int M t') { s with heap := h', toks := tk }) : wpAny (model prog w) A (call (.builtin "min") [.ref l]) Q E s := by
  obtain ⟨xs, e⟩ := hi.allInts.items
  have n1 : numsOf (intItems xs).toList = ns := e ▸ hi.numsOf
  rw [nums_intItems] at n1
  subst n1
  rw [e] at hl
  refine min_t hh hl (by simpa using hne) fun v h' tk hv hk => ?_
  obtain ⟨t, rfl⟩ := intItems_at hv
  have hne' : 0 < xs.size := by simpa using hne
  obtain ⟨h1, h2⟩ := argBest_lt (numAt xs) (xs.size - 1)
  refine h h' tk _ t hk (by rw [numAt_eq]; exact PySem.getD_mem (by simp only [List.length_map, Array.length_toList]; omega)) fun a ha => ?_
  obtain ⟨j, hj, rfl⟩ := mem_getD ha
  simp only [List.length_map, Array.length_toList] at hj
  have := h2 j (by omega)
  rwa [numAt_eq xs j] at this
end
end TupInts
namespace Pu
open PySem PySem.Spec PyProof.Rows L2
def rSumT (K : PySem.W.Frag) : List V → Hp → VK → Prop := fun vs H Q => ∃ (a : Addr) (ns : List Int), vs = [V.ref a] ∧ SqT K H a (ns.map V.int) ∧ Q (.int ns.sum) H
def rMaxT (K : PySem.W.Frag) : List V → Hp → VK → Prop := fun vs H Q => ∃ (a : Addr) (ns : List Int), vs = [V.ref a] ∧ SqT K H a (ns.map V.int) ∧ 0 < ns.length ∧ ∀ m ∈ ns, (∀ y ∈ ns, y ≤ m) → Q (.int m) H
def rMinT (K : PySem.W.Frag) : List V → Hp → VK → Prop := fun vs H Q => ∃ (a : Addr) (ns : List Int), vs = [V.ref a] ∧ SqT K H a (ns.map V.int) ∧ 0 < ns.length ∧ ∀ m ∈ ns, (∀ y ∈ ns, m ≤ y) → Q (.int m) H
section
variable {X : Cx}
theorem cr_sumT (hc : X.calm = true) : CallR X (.builtin "sum") (rSumT X.K) := fun pins s σ H vs us Q I r ⟨a, ns, hx, hs, q⟩ => by
  subst hx
  obtain ⟨its, rv, hl, _⟩ := I.tuple hs
  rw [Vals.ref1 r]
  exact TupInts.sum_of (I.ok.hd hc) hl rv.ints fun h' tk t' hk => ⟨.int _, H, I.kept hk, ⟨_, rfl⟩, q⟩
theorem cr_maxT (hc : X.calm = true) : CallR X (.builtin "max") (rMaxT X.K) := fun pins s σ H vs us Q I r ⟨a, ns, hx, hs, hne, q⟩ => by
  subst hx
  obtain ⟨its, rv, hl, _⟩ := I.tuple hs
  rw [Vals.ref1 r]
  exact TupInts.max_of (I.ok.hd hc) hl rv.ints hne fun h' tk m t' hk h1 h2 => ⟨.int _, H, I.kept hk, ⟨_, rfl⟩, q m h1 h2⟩
theorem cr_minT (hc : X.calm = true) : CallR X (.builtin "min") (rMinT X.K) := fun pins s σ H vs us Q I r ⟨a, ns, hx, hs, hne, q⟩ => by
  subst hx
  obtain ⟨its, rv, hl, _⟩ := I.tuple hs
  rw [Vals.ref1 r]
  exact TupInts.min_of (I.ok.hd hc) hl rv.ints hne fun h' tk m t' hk h1 h2 => ⟨.int _, H, I.kept hk, ⟨_, rfl⟩, q m h1 h2⟩
end
/-- of a tuple or a list -/
def kIntsA (f : List Int → Option D) : List D → Option D
  | [d] => match d.items with
    | some xs => match intsD xs with
      | some ns => f ns
      | none => none
    | none => none
  | _ => none
theorem kInts_at {f : List Int → Option D} {xs : List D} {ns : List Int} (h : intsD xs = some ns) : kInts f [.lst xs] = f ns := by simp only [kInts, h]
theorem ok_intsA {C : Ctx} {r r' : List V → Hp → VK → Prop} {f : List Int → Option D} (h : CallOk C r (kInts f)) (h' : ∀ (G H : Hp) (σ : St) (env : Env) (p : Pen) (a : Addr) (ns : List Int) (z : D) (Q : VK), LOk C G H σ env p → G a = some (.tup (ns.map V.int)) → f ns = some z → (∀ v G' H', Alc G H G' H' → Rep C G' v z → Q v H') → r' [.ref a] H Q) :
    CallOk C (fun vs H Q => r vs H Q ∨ r' vs H Q) (kIntsA f) := by
  intro G H σ env p vs ds z Q L rv ek q
  unfold kIntsA at ek
  split at ek
  · rename_i d
    split at ek
    · rename_i xs hx
      split at ek
      · rename_i ns hn
        rcases D.items_or hx with e | e
        · subst e
          exact .inl (h G H σ env p vs _ z Q L rv ((kInts_at hn).trans ek) q)
        · subst e
          obtain ⟨v, rfl, rw'⟩ := rv.one
          obtain ⟨a, ws, rfl, hG, rs⟩ := rw'.tup
          rw [intsD_eq hn] at rs
          rw [Reps.of_ints rs] at hG
          exact .inr (h' G H σ env p a ns z Q L hG ek q)
      · cases ek
    · cases ek
  · cases ek
theorem ok_sumA {C : Ctx} {K : PySem.W.Frag} : CallOk C (fun vs H Q => rSum K vs H Q ∨ rSumT K vs H Q) (kIntsA fun ns => some (.int ns.sum)) := ok_intsA ok_sum fun G H σ env p a ns z Q L hG e q => by
  cases e
  exact ⟨a, ns, rfl, SqT.of (L.sub _ _ hG), q _ G H (Alc.refl L.sub) (.int _)⟩
theorem ok_maxA {C : Ctx} {K : PySem.W.Frag} : CallOk C (fun vs H Q => rMax K vs H Q ∨ rMaxT K vs H Q) (kIntsA fun ns => (maxL ns).map D.int) := ok_intsA ok_maxL fun G H σ env p a ns z Q L hG e q => by
  cases em : maxL ns with
  | none =>
    rw [em] at e
    cases e
  | some m =>
    rw [em] at e
    cases e
    obtain ⟨h1, h2⟩ := maxL_spec em
    refine ⟨a, ns, rfl, SqT.of (L.sub _ _ hG), List.length_pos_of_mem h1, fun m' h3 h4 => ?_⟩
    have e : m' = m := Int.le_antisymm (h2 m' h3) (h4 m h1)
    subst e
    exact q _ G H (Alc.refl L.sub) (.int _)
theorem ok_minA {C : Ctx} {K : PySem.W.Frag} : CallOk C (fun vs H Q => rMin K vs H Q ∨ rMinT K vs H Q) (kIntsA fun ns => (minL ns).map D.int) := ok_intsA ok_minL fun G H σ env p a ns z Q L hG e q => by
  cases em : minL ns with
  | none =>
    rw [em] at e
    cases e
  | some m =>
    rw [em] at e
    cases e
    obtain ⟨h1, h2⟩ := minL_spec em
    refine ⟨a, ns, rfl, SqT.of (L.sub _ _ hG), List.length_pos_of_mem h1, fun m' h3 h4 => ?_⟩
    have e : m' = m := Int.le_antisymm (h4 m h1) (h2 m' h3)
    subst e
    exact q _ G H (Alc.refl L.sub) (.int _)
section
variable {X : Cx} {C : Ctx} {W : WX} {e : Expr} {m : EM} {pos p : Pos}
theorem pm_sumA (hc : X.calm = true) (hm : X.mg "sum" = none) (h : PE X e (rB C W m)) (hg : Gl X "sum" := by rfl) (hs : starEach [e] X.env = (false, eval e X.env) :: starEach [] X.env := by rfl) (hpl : (backTo pos (starEach [] X.env)).any (·.1) = false := by rfl) : PE X (.Call (.Name "sum" p) [e] [] pos) (rE C W (mCall (kIntsA fun ns => some (.int ns.sum)) (aCons m aNil))) :=
  pm_cb ok_sumA (CallR.or (cr_sum hc) (cr_sumT hc)) hm boot_sum (bm_cons h bm_nil hs) hg (by decide) (by decide) hs hpl
theorem pm_maxA (hc : X.calm = true) (hm : X.mg "max" = none) (h : PE X e (rB C W m)) (hg : Gl X "max" := by rfl) (hs : starEach [e] X.env = (false, eval e X.env) :: starEach [] X.env := by rfl) (hpl : (backTo pos (starEach [] X.env)).any (·.1) = false := by rfl) : PE X (.Call (.Name "max" p) [e] [] pos) (rE C W (mCall (kIntsA fun ns => (maxL ns).map D.int) (aCons m aNil))) :=
  pm_cb ok_maxA (CallR.or (cr_max hc) (cr_maxT hc)) hm boot_max (bm_cons h bm_nil hs) hg (by decide) (by decide) hs hpl
theorem pm_minA (hc : X.calm = true) (hm : X.mg "min" = none) (h : PE X e (rB C W m)) (hg : Gl X "min" := by rfl) (hs : starEach [e] X.env = (false, eval e X.env) :: starEach [] X.env := by rfl) (hpl : (backTo pos (starEach [] X.env)).any (·.1) = false := by rfl) : PE X (.Call (.Name "min" p) [e] [] pos) (rE C W (mCall (kIntsA fun ns => (minL ns).map D.int) (aCons m aNil))) :=
  pm_cb ok_minA (CallR.or (cr_min hc) (cr_minT hc)) hm boot_min (bm_cons h bm_nil hs) hg (by decide) (by decide) hs hpl
end
end Pu
end

section
set_option maxHeartbeats 4000000
namespace Pu
open PySem PySem.Spec PyProof.Rows L2

/-! ### f(e, ..) where a slot holds one of some defs -/
def mCallV (i : Nat) (fs : List (Str × FM)) (a : AM) : EM := fun env p => match env[i]? with
  | some (.val (.fn x)) => match fs.lookup x with
    | some m => mFn m a env p
    | none => .bad
  | _ => .bad
/-- each of them by its promise -/
inductive Fns (C : Ctx) (P : Program) (w : World) (base : Heap) (gd : Bool) (k n : Nat) : List (Str × FM) → Prop where
  | nil : Fns C P w base gd k n []
  | cons {x : Str} {j : Nat} {m : FM} {fs : List (Str × FM)} (h : Fn C P w base gd x j n m) (hj : j ≤ k) (t : Fns C P w base gd k n fs) : Fns C P w base gd k n ((x, m) :: fs)
theorem Fns.look {C : Ctx} {P : Program} {w : World} {base : Heap} {gd : Bool} {k n : Nat} {x : Str} {m : FM} : ∀ {fs : List (Str × FM)}, Fns C P w base gd k n fs → fs.lookup x = some m → ∃ j, j ≤ k ∧ Fn C P w base gd x j n m
  | _, .nil, e => by cases e
  | _, .cons h hj t, e => by
    rw [look_put] at e
    split at e
    · rename_i c
      cases e
      subst c
      exact ⟨_, hj, h⟩
    · exact Fns.look t e
section
variable {X : Cx} {C : Ctx} {W : WX} {e : Expr} {es : List Expr} {a : AM} {pos p : Pos} {x : Str} {gd gd' : Bool} {k j n : Nat} {m : FM}
theorem pm_callV (i : Nat) {fs : List (Str × FM)} (F : Fns C X.prog X.w X.base gd k n fs) (w : Wk X C W gd' j) (hk : k ≤ j) (hgd : gd = true → gd' = true) (ha : PA X (e :: es) (rA C W a)) (hl : ALen a n) (hN : X.N[i]? = some x := by rfl) (hv : Vis X.env.scope x := by first | exact Or.inl rfl | exact Or.inr (Or.inl rfl) | exact Or.inr (Or.inr rfl))
    (hdb : (x == ("__debug__" : Str)) = false := by decide) (hcd : (x == ("__classdict__" : Str)) = false := by decide)
    (he : starEach (e :: es) X.env = (false, eval e X.env) :: starEach es X.env := by rfl) (hpl : (backTo pos (starEach es X.env)).any (·.1) = false := by rfl) : PE X (.Call (.Name x p) (e :: es) [] pos) (rE C W (mCallV i fs a)) := by
  refine ⟨fun pins s σ H Q I ⟨G, env, p0, L, o⟩ => ?_⟩
  unfold mCallV at o
  split at o
  · rename_i y hy
    split at o
    · rename_i m hm
      obtain ⟨j1, hj1, F⟩ := F.look hm
      obtain ⟨f, fd, ps, h1, h2, h3, h4, F⟩ := F.ex
      have hs : σ[i]? = some (some (.ref f)) := by
        have hi : i < env.length := by
          rw [List.getElem?_eq_some_iff] at hy
          exact hy.1
        have hi2 : i < σ.length := by
          rw [L.len]
          exact hi
        have s0 := L.slot i _ _ (List.getElem?_eq_getElem hi2) hy
        rw [List.getElem?_eq_getElem hi2]
        generalize σ[i] = z at s0
        cases s0 with
        | val r =>
          cases r with
          | fn h =>
            rw [h1] at h
            cases h
            rfl
      rw [w.K] at h2 h3 F
      rw [w.mg] at F
      refine wpAny_Call_Name_kw (thn ((pe_var (pos := p) hN hv hdb hcd).run pins s σ H (fun v H1 => v = .ref f ∧ H1 = H) I ⟨.ref f, hs, rfl, rfl⟩) fun u s1 ⟨v, H1, I1, r1, q1, q2⟩ => ?_)
      subst q1 q2
      cases r1
      have o1 : OutP (mFn m a env p0) _ _ := o
      have o2 := OutP.bind o1
      cases ea : a env p0 with
      | bad =>
        rw [ea] at o2
        exact o2.elim
      | err er q =>
        have z : rA C W a σ H1 (fun _ _ => False) := ⟨G, env, p0, L, by rw [ea] at o2 ⊢; exact o2⟩
        refine PySem.W.callWith_K (h₀ := X.base) I1.ok.mod.kin h2 (thn (ha.run pos pins s1 σ _ _ I1 z) fun us s1 ⟨vs, H1, I1, r, q⟩ => q.elim) he hpl
      | ok ds q =>
        have lds := hl _ _ _ _ ea
        rw [ea] at o2
        have z : rA C W a σ H1 (fun vs H1 => spM C m n vs H1 Q (fun cls d H' => W cls d σ H')) := ⟨G, env, p0, L, by
          rw [ea]
          intro vs G1 H1 x1 y1 r1
          refine ⟨G1, ds, q, by rw [r1.length]; exact lds, x1.sub, x1.tab, x1.nt L.tab L.nt, y1, r1, OutP.imp o2 (fun d q2 z2 v G2 H2 x2 y2 r2 => z2 v G2 H2 (x1.trans x2) y2 r2) fun er q2 z2 cls dd G2 H2 x2 y2 r2 => z2 cls dd G2 H2 (x1.trans x2) y2 r2⟩⟩
        refine PySem.W.callWith_K (h₀ := X.base) I1.ok.mod.kin h2 (thn (ha.run pos pins s1 σ _ _ I1 z) fun us s2 ⟨vs, H2, I2, r, q⟩ => ⟨I2.kIn, ?_⟩) he hpl
        exact run_fnA F (w.room.mono (Nat.le_trans hj1 hk)) (fun c => w.gd (hgd c)) h3 (fun er s' c => w.tk er s' (XE.of_call I2 (fun cls d H2 h => h) c)) I2 r q
    · exact o.elim
  · exact o.elim
end
end Pu
end

section
set_option maxHeartbeats 2000000
namespace Pu
open PySem PySem.Spec PyProof.Rows L2

/-! ### own classes by the head's word -/
def clsB (K : PySem.W.Frag) (cA : Addr) : Bool := PySem.W.plainGet K cA Str.empty && (PySem.W.hasDictIn K cA && (PySem.W.plainOver K cA && (He.eqO (PySem.W.findIn K (.ref cA) "__setattr__") (some (some (.builtin "object.__setattr__"))) && insB K cA)))
theorem clsB_ok {K : PySem.W.Frag} {cA : Addr} (h : clsB K cA = true) : InsC K cA := by
  unfold clsB at h
  rw [Bool.and_eq_true, Bool.and_eq_true, Bool.and_eq_true, Bool.and_eq_true] at h
  exact insB_ok ⟨h.1, h.2.1, h.2.2.1, He.eqO_ok h.2.2.2.1⟩ h.2.2.2.2
def mkB (K : PySem.W.Frag) (cA : Addr) : Bool := PySem.W.makesIn K cA && (He.eqO (PySem.W.findIn K (.ref cA) "__init__") (some (some (.ref (He.ma K cA "__init__")))) && (PySem.W.isFn K (.ref (He.ma K cA "__init__")) && PySem.W.keepIn K (.ref cA)))
theorem mkB_ok {K : PySem.W.Frag} {cA : Addr} (h : mkB K cA = true) : Mk K cA (He.ma K cA "__init__") := by
  unfold mkB at h
  rw [Bool.and_eq_true, Bool.and_eq_true, Bool.and_eq_true] at h
  exact ⟨h.1, He.eqO_ok h.2.1, h.2.2.1, h.2.2.2⟩
def metB (K : PySem.W.Frag) (cA : Addr) (m : Str) : Bool := He.eqO (PySem.W.findIn K (.ref cA) m) (some (some (.ref (He.ma K cA m)))) && PySem.W.isFn K (.ref (He.ma K cA m))
def neB (K : PySem.W.Frag) (cA : Addr) : Bool := He.eqO (PySem.W.findIn K (.ref cA) "__ne__") (some (some (.builtin "object.__ne__")))
section
variable {C : Ctx} {P : Program} {w : World} {base : Heap} {gd : Bool} {k n : Nat} {x : Str} {fd : FuncData} {ps : List Str}
theorem ins_of {m : IM} (hm : C.mg x = some (.ref (He.ga C.K x))) (h : mkB C.K (He.ga C.K x) = true) (hb : Binds C.K fd ps []) (hl : ps.length = n + 1) (F : FnA gd P w C.K C.mg base (L2.CX P w) k (He.ma C.K (He.ga C.K x) "__init__") fd ps (spIn C (He.ga C.K x) m n)) : Ins C P w base gd x k n m :=
  ⟨_, _, fd, ps, hm, mkB_ok h, hb, hl, F⟩
theorem ownEq_of {m : FM} (hm : C.mg x = some (.ref (He.ga C.K x))) (h : metB C.K (He.ga C.K x) "__eq__" = true) (h2 : neB C.K (He.ga C.K x) = true) (h3 : InsC C.K (He.ga C.K x)) (hb : Binds C.K fd ps []) (hl : ps.length = 2) (F : FnA gd P w C.K C.mg base (L2.CX P w) k (He.ma C.K (He.ga C.K x) "__eq__") fd ps (spM C m 2)) : OwnEq C P w base gd x k m := by
  unfold metB at h
  rw [Bool.and_eq_true] at h
  exact ⟨_, _, fd, ps, hm, He.eqO_ok h.1, He.eqO_ok h2, h3.hm, h.2, hb, hl, F⟩
theorem ownLen_of {m : FM} (hm : C.mg x = some (.ref (He.ga C.K x))) (h : metB C.K (He.ga C.K x) "__len__" = true) (hb : Binds C.K fd ps []) (hl : ps.length = 1) (F : FnA gd P w C.K C.mg base (L2.CX P w) k (He.ma C.K (He.ga C.K x) "__len__") fd ps (spM C m 1)) : OwnLen C P w base gd x k m := by
  unfold metB at h
  rw [Bool.and_eq_true] at h
  exact ⟨_, _, fd, ps, hm, He.eqO_ok h.1, h.2, hb, hl, F⟩
theorem fnA_of {qual name : Str} {params : Arguments} {body : List Stmt} {scope : Scope} {f : Addr} {N : List Str} {m : SM} (F : FunD C.K name qual params body scope [] [] f fd) (S : FnScope N ps scope) (hx : C.ex = none) (h : ∀ cdv, Body gd C P w base N qual scope f cdv k body m) : FnA gd P w C.K C.mg base (L2.CX P w) (k + 1) f fd ps (spM C (mDef N.length m) ps.length) := by
  obtain ⟨oc, od, dV, kV, doc, pm, an, cdv, ct, osl, rfl, lk, hcd, _, _⟩ := F.ex
  exact fn_pu lk hcd S hx (h cdv)
theorem fnI_of {qual name s1 : Str} {params : Arguments} {body : List Stmt} {scope : Scope} {f cA : Addr} {N : List Str} {m : OF} {n : Nat} (F : FunD C.K name qual params body scope [] [] f fd) (S : FnScope N (s1 :: ps) scope) (hx : C.ex = none) (hn : n ≤ 900)
    (h : ∀ (cdv : Value) (A : Around) (outer : List PySem.Env) (s : Shared) (H : Hp) (E : XK), Wk (cxOf (L2.CX P w) P w C.K C.mg base N qual scope f cdv A outer s H E) C (fun cls d _ H => E cls d H) gd k → PSs (cxOf (L2.CX P w) P w C.K C.mg base N qual scope f cdv A outer s H E) body (rIn C (fun cls d _ H => E cls d H) cA n m)) :
    FnA gd P w C.K C.mg base (L2.CX P w) (k + 1) f fd (s1 :: ps) (spIn C cA (mDefI N.length m) ps.length) := by
  obtain ⟨oc, od, dV, kV, doc, pm, an, cdv, ct, osl, rfl, lk, hcd, _, _⟩ := F.ex
  exact fn_in lk hcd S hx hn (h cdv)
/-- a promise that nothing keeps: the ground of a recursion -/
theorem fn_bad {qual : Str} {params : Arguments} {body : List Stmt} {scope : Scope} {f : Addr} (F : FunD C.K x qual params body scope [] [] f fd) (hm : C.mg x = some (.ref f)) (hb : Binds C.K fd ps []) : Fn C P w base gd x k ps.length (fun _ _ => .bad) :=
  ⟨f, fd, ps, hm, F.kp, hb, rfl, fun vs H Q E ⟨_, _, _, h, _⟩ => h, fun A outer s H args us vs Q E _ _ _ _ _ ⟨_, _, _, _, _, _, _, _, _, h⟩ => h.elim⟩
end
end Pu
end

section
set_option maxHeartbeats 2000000
namespace Pu
open PySem PySem.Spec PyProof.Rows L2

/-! ### defs that make lambdas: their code objects are known -/
section
variable {C : Ctx} {P : Program} {w : World} {base : Heap} {gd : Bool} {k : Nat} {x : Str} {fd : FuncData} {ps : List Str}
theorem fn_ofL {qual : Str} {params : Arguments} {body : List Stmt} {scope : Scope} {p : He.Defn} {N : List Str} {m : SM} (F : FunD C.K x qual params body scope [] [] (He.fAd C.K p) fd) (hm : C.mg x = some (.ref (He.fAd C.K p))) (S : FnScope N ps scope) (hx : C.ex = none) (hb : Binds C.K fd ps [])
    (h : Body true C P w base N qual scope (He.fAd C.K p) (.ref (He.codeOf C.K p)) k body m) : Fn C P w base true x (k + 1) ps.length (mDef N.length m) := by
  have kp := F.kp
  obtain ⟨oc, od, dV, kV, doc, pm, an, cdv, ct, osl, rfl, lk, hcd, _, _⟩ := F.ex
  obtain ⟨c, rfl⟩ := He.codeIn_ref hcd
  have e := He.codeOf_eq lk rfl
  rw [e] at h
  exact ⟨_, _, ps, hm, kp, hb, rfl, fn_pu lk hcd S hx h⟩
theorem law_ofL {ip : Nat} {y qual : Str} {params : Arguments} {st : Stmt} {rest : List Stmt} {scope : Scope} {p : He.Defn} {N : List Str} {m1 m2 : SM} {ok : List Int → Prop} {pen0 : List Int → Pen} (F : FunD C.K x qual params (st :: rest) scope [] [] (He.fAd C.K p) fd) (S : FnScope N [y] scope) (hx : C.ex = none) (hp : C.pa = none) (hip : ip < N.length) (h1 : 1 ≤ N.length)
    (hb1 : ∀ (A : Around) (outer : List PySem.Env) (s : Shared) (H : Hp) (E : XK), Wk (cxOf (L2.CX P w) P w C.K C.mg base N qual scope (He.fAd C.K p) (.ref (He.codeOf C.K p)) A outer s H E) C (fun cls d _ H => E cls d H) true k → PS (cxOf (L2.CX P w) P w C.K C.mg base N qual scope (He.fAd C.K p) (.ref (He.codeOf C.K p)) A outer s H E) st (rS C (fun cls d _ H => E cls d H) m1))
    (hb2 : ∀ (a l : Addr) (A : Around) (outer : List PySem.Env) (s : Shared) (H : Hp) (E : XK), Wk (cxOf (L2.CX P w) P w C.K C.mg base N qual scope (He.fAd C.K p) (.ref (He.codeOf C.K p)) A outer s H E) (C.withPen a l) (fun cls d _ H => E cls d H) true k → PSs (cxOf (L2.CX P w) P w C.K C.mg base N qual scope (He.fAd C.K p) (.ref (He.codeOf C.K p)) A outer s H E) rest (rS (C.withPen a l) (fun cls d _ H => E cls d H) m2))
    (hm1 : ∀ ns, ok ns → m1 (env0 N.length [.scr ns]) emptyPen = .next ((env0 N.length [.scr ns]).set ip (.val (.dct (penDs (pen0 ns))))) emptyPen)
    (hm2 : ∀ ns, ok ns → ∃ q, m2 (envL N.length ip) (pen0 ns) = .ret (.bl true) q) : FnA true P w C.K C.mg base (L2.CX P w) (k + 1) (He.fAd C.K p) fd [y] (spLaw C ok) := by
  obtain ⟨oc, od, dV, kV, doc, pm, an, cdv, ct, osl, rfl, lk, hcd, _, _⟩ := F.ex
  obtain ⟨c, rfl⟩ := He.codeIn_ref hcd
  have e := He.codeOf_eq lk rfl
  rw [e] at hb1 hb2
  exact fn_law lk hcd S hx hp hip h1 hb1 hb2 hm1 hm2
end
/-- the tables of the defs that make lambdas: in order, not mixed up -/
structure TT (tf : List (He.Defn × Str)) (C : Ctx) (base : Heap) : Prop where
  tb : ∀ p ∈ tf, LamX.TabB base C.mg (He.cT C.K p.1).1 (He.cT C.K p.1).2
  inT : ∀ p ∈ tf, ((He.cT C.K p.1).2, p.2) ∈ C.T
  one : ∀ p ∈ tf, ∀ q ∈ C.T, q.1 = (He.cT C.K p.1).2 → q.2 = p.2
  cl : C.cl = none
def ttB (tf : List (He.Defn × Str)) (K : PySem.W.Frag) : Bool := tf.all fun p => tf.all fun q => decide ((He.cT K q.1).2 = (He.cT K p.1).2 → q.2 = p.2)
def ttT (tf : List (He.Defn × Str)) (K : PySem.W.Frag) : List (Addr × Str) := tf.map fun p => ((He.cT K p.1).2, p.2)
theorem tt_of {tf : List (He.Defn × Str)} {C : Ctx} {base : Heap} (h : ttB tf C.K = true) (hT : C.T = ttT tf C.K) (hc : C.cl = none) (hb : ∀ p ∈ tf.map (fun p => He.cT C.K p.1), LamX.TabB base C.mg p.1 p.2) : TT tf C base := by
  refine ⟨fun p hp => hb _ (List.mem_map.mpr ⟨p, hp, rfl⟩), fun p hp => by rw [hT]; exact List.mem_map.mpr ⟨p, hp, rfl⟩, fun p hp q hq e => ?_, hc⟩
  rw [hT] at hq
  obtain ⟨r, hr, rfl⟩ := List.mem_map.mp hq
  exact of_decide_eq_true (List.all_eq_true.mp (List.all_eq_true.mp h p hp) r hr) e
theorem TT.pen {tf : List (He.Defn × Str)} {C : Ctx} {base : Heap} (h : TT tf C base) (a l : Addr) : TT tf (C.withPen a l) base := ⟨h.tb, h.inT, h.one, h.cl⟩
/-- a comprehension's block, looked at by the kernel -/
def blkB (N : List Str) (sc scope : Scope) (own : List (Str × Nat)) : Bool :=
  decide (scope.kind = .function) && (scope.names.all (fun y => decide (scope.names.lookup y.1 = some y.2)) && (own.all (fun p => decide (N[p.2]? = some p.1)) && (scope.names.all (fun y => decide (y.2 = .free → sc.names.lookup y.1 = some .cell ∨ sc.names.lookup y.1 = some .free)) && scope.names.all (fun y => decide (y.2 = .local ∨ y.2 = .cell → y.1 ∈ own.map (·.1) ∨ y.1 ∉ N)))))
theorem blk_of {N : List Str} {sc scope : Scope} {own : List (Str × Nat)} (h : blkB N sc scope own = true) : BlkOk N sc scope own := by
  unfold blkB at h
  rw [Bool.and_eq_true, Bool.and_eq_true, Bool.and_eq_true, Bool.and_eq_true, List.all_eq_true, List.all_eq_true, List.all_eq_true, List.all_eq_true, decide_eq_true_eq] at h
  obtain ⟨h1, h2, h3, h4, h5⟩ := h
  exact ⟨h1, fun y m => of_decide_eq_true (h2 y m), fun y m => of_decide_eq_true (h3 y m), fun y m => of_decide_eq_true (h4 y m), fun y m => of_decide_eq_true (h5 y m)⟩
abbrev kSumA : List D → Option D := kIntsA fun ns => some (.int ns.sum)
abbrev kMaxA : List D → Option D := kIntsA fun ns => (maxL ns).map D.int
abbrev kMinA : List D → Option D := kIntsA fun ns => (minL ns).map D.int
abbrev kAll : List D → Option D := kBls fun bs => some (.bl (bs.all id))
abbrev kAny : List D → Option D := kBls fun bs => some (.bl (bs.any id))
end Pu
end

section
set_option maxHeartbeats 2000000
namespace Pu
open PySem PySem.Spec PyProof.Rows L2

/-! ### isinstance(x, (A, B, ..)) -/
def D.isCls : D → Bool
  | .ty _ => true
  | .fn _ => true
  | _ => false
def askAny (ask : Ask) (t : Sum String Str) : List D → Option Bool
  | [] => some false
  | k :: ks => match ask t k with
    | some true => some true
    | some false => askAny ask t ks
    | none => none
def kIsiT (os : List Str) (ask : Ask) : List D → Option D
  | [d, .tup ks] => if ks.all D.isCls = true ∧ d.isExc = false then (match d with
    | .obj c _ => if c ∈ os then (askAny ask (.inr c) ks).map D.bl else none
    | d => match d.tag with
      | some t => (askAny ask t ks).map D.bl
      | none => none) else none
  | _ => none
inductive ClsDs (C : Ctx) : List D → List Value → Prop where
  | nil : ClsDs C [] []
  | cons {d : D} {v : V} {u : Value} {ds : List D} {us : List Value} (h : ClsD C d v u) (t : ClsDs C ds us) : ClsDs C (d :: ds) (u :: us)
theorem cls_all {C : Ctx} {G : Hp} : ∀ {vs : List V} {ks : List D}, Reps C G vs ks → ks.all D.isCls = true → ∃ us, Paired ClsV vs us ∧ ClsDs C ks us
  | _, _, .nil, _ => ⟨[], .nil, .nil⟩
  | _, _, .cons (d := d) h t, c => by
    rw [List.all_cons, Bool.and_eq_true] at c
    obtain ⟨us, p1, p2⟩ := cls_all t c.2
    have hk : (∃ n, d = .ty n) ∨ ∃ c, d = .fn c := by
      have c1 := c.1
      cases d <;> first | exact .inl ⟨_, rfl⟩ | exact .inr ⟨_, rfl⟩ | cases c1
    obtain ⟨u, q1, q2⟩ := ClsD.of (ask := fun _ _ => none) (t := .inl "int") (b := true) h hk
    exact ⟨u :: us, .cons q1 p1, .cons q2 p2⟩
theorem askAny_ok {C : Ctx} {ask : Ask} (A : AskOk C ask) {t : Sum String Str} {tv : Value} (ht : TagV C t tv) : ∀ {ks : List D} {us : List Value} {b : Bool}, ClsDs C ks us → askAny ask t ks = some b → PySem.W.kitAny C.K tv us = some b
  | _, _, _, .nil, e => by cases e; rfl
  | _, _, b, .cons (d := k) h r, e => by
    unfold askAny at e
    cases ea : ask t k with
    | none => rw [ea] at e; cases e
    | some x =>
      rw [ea] at e
      have q := A.ok _ _ _ ea _ ht _ _ h
      cases x with
      | true =>
        cases e
        exact kitAny_cons q (fun z => nomatch z) fun _ => rfl
      | false => exact kitAny_cons q (fun _ => askAny_ok A ht r e) fun z => nomatch z
theorem ok_isT {C : Ctx} {os es : List Str} {ask : Ask} (A : AskOk C ask) (K : Clss C os es) : CallOk C (rIsiT C.K) (kIsiT os ask) := by
  intro G H σ env p vs ds z Q L r ek q
  unfold kIsiT at ek
  split at ek
  · rename_i d ks
    split at ek
    · rename_i hc
      obtain ⟨v, w, rfl, rv, rw'⟩ := r.two'
      have fr := rv.frz L
      have frk := rw'.frz L
      cases frk with
      | tup hT rs =>
        obtain ⟨us, p1, p2⟩ := cls_all rs hc.1
        split at ek
        · rename_i c fs
          split at ek
          · rename_i ho
            cases ea : askAny ask (.inr c) ks with
            | none =>
              rw [ea] at ek
              cases ek
            | some b =>
              rw [ea] at ek
              cases ek
              cases fr with
              | obj m h rr =>
                have ic := K.obj c ho _ m
                exact ⟨_, _, _, _, us, b, rfl, L.frz_sub _ _ hT, p1, .base (.ins (L.frz_sub _ _ h) ic.cls ic.ha ic.hn ic.ht ic.hm), askAny_ok A (.own m) p2 ea, q _ G H (Alc.refl L.sub) (.bl _)⟩
          · cases ek
        · rename_i n1
          split at ek
          · rename_i t ht
            cases ea : askAny ask t ks with
            | none =>
              rw [ea] at ek
              cases ek
            | some b =>
              rw [ea] at ek
              cases ek
              have m1 : d.isObj = false := by
                cases d <;> first | rfl | exact absurd rfl (n1 _ _)
              obtain ⟨tv, t1, t2⟩ := TyX.of L.frz_sub fr m1 hc.2 ht
              exact ⟨_, _, _, tv, us, b, rfl, L.frz_sub _ _ hT, p1, t2, askAny_ok A t1 p2 ea, q _ G H (Alc.refl L.sub) (.bl _)⟩
          · cases ek
    · cases ek
  · cases ek
section
variable {X : Cx} {C : Ctx} {W : WX} {e : Expr} {es' : List Expr} {a : AM} {pos p : Pos} {os es : List Str} {ask : Ask}
theorem call_isTA {Y : Cx} {C : Ctx} (hK : C.K = Y.K) : CallR Y (.builtin "isinstance") (rIsiT C.K) := by
  rw [hK]
  exact call_isiT
/-- isinstance(e, (A, ..)) -/
theorem pm_isiT (hK : C.K = X.K) (A : AskOk C ask) (K : Clss C os es) (hm : X.mg "isinstance" = none) (ha : PA X (e :: es') (rAB C W a)) (hg : Gl X "isinstance" := by rfl)
    (he : starEach (e :: es') X.env = (false, eval e X.env) :: starEach es' X.env := by rfl) (hpl : (backTo pos (starEach es' X.env)).any (·.1) = false := by rfl) : PE X (.Call (.Name "isinstance" p) (e :: es') [] pos) (rE C W (mCall (kIsiT os ask) a)) :=
  pm_cb (ok_isT A K) (call_isTA hK) hm (by with_unfolding_all rfl) ha hg (by decide) (by decide) he hpl
end
end Pu
end

section
set_option maxHeartbeats 2000000
namespace Pu
open PySem PySem.Spec PyProof.Rows L2
/-! ### fuel of loops -/
def fuelI (i : Nat) : Env → Pen → Nat := fun env _ => match env[i]? with
  | some (.val (.int n)) => n.natAbs + 1
  | _ => 0
def fuelC (n : Nat) : Env → Pen → Nat := fun _ _ => n
end Pu
end

section
set_option maxHeartbeats 2000000
namespace Pu
open PySem PySem.Spec PyProof.Rows L2
/-! ### == of lists of different lengths: their items are not looked at -/
def rEqLen (K : PySem.W.Frag) : R2 := fun x y H Q => ∃ (a b : Addr) (xs ys : List V), x = .ref a ∧ y = .ref b ∧ SqL K H a xs ∧ SqL K H b ys ∧ xs.length ≠ ys.length ∧ Q (.bl false) H
theorem op_eqLen {X : Cx} (hu : X.A.units + 64 < cLine) : OpR X (compareOp .Eq) (rEqLen X.K) := by
  intro pins s σ H x y v u Q I rx ry h
  obtain ⟨a, b, xs, ys, rfl, rfl, h1, h2, hn, q⟩ := h
  cases (show v = Value.ref a from rx)
  cases (show u = Value.ref b from ry)
  obtain ⟨i1, r1, l1, _⟩ := I.list h1
  obtain ⟨i2, r2, l2, _⟩ := I.list h2
  obtain ⟨o1, n1, ho1, hc1, _, hd1⟩ := l1
  obtain ⟨o2, n2, ho2, hc2, _, hd2⟩ := l2
  refine SeqAt.RcAt.lists_lengths (A := X.A) (s := s) (items := i1.toArray) (items2 := i2.toArray) ⟨o1, ho1, hc1, n1, hd1⟩ ⟨o2, ho2, hc2, n2, hd2⟩ ?_ (by omega) X.prog X.w _ _ ⟨.bl false, H, I, rfl, q⟩
  have e1 := r1.length
  have e2 := r2.length
  simp only [List.size_toArray, bne_iff_ne, ne_eq]
  omega
def kEqE (d e : D) : Option D := match d, e with
  | .lst xs, .lst ys => if xs.length ≠ ys.length then some (.bl false) else kEq (.lst xs) (.lst ys)
  | d, e => kEq d e
theorem ok_eqE {C : Ctx} {K : PySem.W.Frag} : OpOk C (fun x y H Q => rEqD K x y H Q ∨ rEqLen K x y H Q) kEqE := by
  intro G H σ env p v w d e z Q L rv rw' ek q
  have base : kEq d e = some z → rEqD K v w H Q ∨ rEqLen K v w H Q := fun h => .inl (ok_eq G H σ env p v w d e z Q L rv rw' h q)
  unfold kEqE at ek
  split at ek
  · rename_i xs ys
    split at ek
    · rename_i hn
      cases ek
      obtain ⟨a, ws, rfl, hH, rs⟩ := rv.lst L
      obtain ⟨b, us, rfl, hH2, rs2⟩ := rw'.lst L
      exact .inr ⟨a, b, ws, us, rfl, rfl, SqL.of hH, SqL.of hH2, by rw [rs.length, rs2.length]; exact hn, q _ G H (Alc.refl L.sub) (.bl _)⟩
    · exact base ek
  · exact base ek
section
variable {X : Cx} {C : Ctx} {W : WX} {a b : Expr} {ma mb : EM} {pos : Pos}
theorem pm_eqE (hu : X.A.units + 64 < cLine) (ha : PE X a (rB C W ma)) (hb : PE X b (rB C W mb)) : PE X (.Compare a [.Eq] [b] pos) (rE C W (mOp kEqE ma mb)) := pm_cmp ok_eqE (Pu.op_or (op_eqD hu) (op_eqLen hu)) ha hb (nomark _)
theorem tm_eqE (hu : X.A.units + 64 < cLine) (ha : PE X a (rB C W ma)) (hb : PE X b (rB C W mb)) : PT X (.Compare a [.Eq] [b] pos) (rT C W (mT (mOp kEqE ma mb))) := tm_cmp ok_eqE (Pu.op_or (op_eqD hu) (op_eqLen hu)) ha hb (nomark _)
end
end Pu
end

section
set_option maxHeartbeats 2000000
/-! zip of two sides of any kind: a list and a tuple -/
namespace Pu.Zm
open PySem PySem.Spec PyProof.Rows L2
/-- one side of a zip: an iterator ix over what stands at lx -/
structure Side (prog : Program) (w : World) (ix lx : Addr) (vals : Array Value) (On : Nat → Heap → Prop) : Prop where
  item : ∀ {A : Around} {E : Value → Shared → Prop} {s : Shared} {k : Nat} {x : Value} {Q : Value → Shared → Prop}, On k s.heap → vals[k]? = some x →
    (∀ hn, On (k + 1) hn → Heap.SameBut ix s.heap hn → Q x { s with heap := hn }) → wpAny (model prog w) A (Builtin.SmallTypes.nextOf (.ref ix)) Q E s
  stop : ∀ {A : Around} {E : Value → Shared → Prop} {s : Shared} {k : Nat} {Q : Value → Shared → Prop}, A.handled = none → On k s.heap → vals[k]? = none →
    (∀ hn e, Heap.ExtBut ix s.heap hn → (∃ o, hn.get? e = some o ∧ o.cls = .type "StopIteration") → E (.ref e) { s with heap := hn }) → wpAny (model prog w) A (Builtin.SmallTypes.nextOf (.ref ix)) Q E s
  keep : ∀ {k : Nat} {ha hn : Heap}, On k ha → (∀ o, ha.get? ix = some o → hn.get? ix = some o) → (∀ o, ha.get? lx = some o → hn.get? lx = some o) → On k hn
  room : ∀ {k : Nat} {ha : Heap}, On k ha → ix < ha.objs.size
def OnL (ix lx : Addr) (vals : Array Value) : Nat → Heap → Prop := fun k h => h.IsListIter ix lx k ∧ h.IsList lx vals
def OnT (ix lx : Addr) (vals : Array Value) : Nat → Heap → Prop := fun k h => h.IsTupleIter ix lx k ∧ h.IsTuple lx vals
theorem sideL {prog : Program} {w : World} {ix lx : Addr} {vals : Array Value} (ne : lx ≠ ix) : Side prog w ix lx vals (OnL ix lx vals) where
  item := fun on hx hq => wpAny_nextOf_list_item on.1 on.2 hx fun hn g sb => hq hn ⟨g, on.2.at fun o e => sb.extBut _ _ ne e⟩ sb
  stop := fun hh on hx hq => wpAny_nextOf_list_end hh on.1 on.2 hx hq
  keep := fun on k1 k2 => ⟨on.1.at k1, on.2.at k2⟩
  room := fun on => by
    obtain ⟨⟨_, e, _⟩, _⟩ := on
    exact Heap.lt_size e
theorem sideT {prog : Program} {w : World} {ix lx : Addr} {vals : Array Value} (ne : lx ≠ ix) : Side prog w ix lx vals (OnT ix lx vals) where
  item := fun on hx hq => RZ.nextOf_tuple_item on.1 on.2 hx fun hn g sb => hq hn ⟨g, on.2.at fun o e => sb.extBut _ _ ne e⟩ sb
  stop := fun hh on hx hq => RZ.nextOf_tuple_end hh on.1 on.2 hx hq
  keep := fun on k1 k2 => ⟨on.1.at k1, on.2.at k2⟩
  room := fun on => by
    obtain ⟨⟨_, e, _⟩, _⟩ := on
    exact Heap.lt_size e
section
variable {prog : Program} {w : World} {A : Around} {E : Value → Shared → Prop} {s : Shared} {zz ti to a1 a2 b1 b2 : Addr} {k : Nat} {xs ys : Array Value} {O1 O2 : Nat → Heap → Prop} {p q : Value}
/-- the way to the loop over the sides -/
theorem enter {R : Unit → Shared → Prop} (cont : True) : True := trivial
theorem zip_item {x y : Value} {Q : Value → Shared → Prop} (D : ZipApart zz ti to a1 a2 b1 b2) (S1 : Side prog w a1 b1 xs O1) (S2 : Side prog w a2 b2 ys O2)
    (hz : IsZip s.heap zz ti to .none) (hti : IsPair s.heap ti (.ref a1) (.ref a2)) (hto : IsPair s.heap to p q) (o1 : O1 k s.heap) (o2 : O2 k s.heap) (hx : xs[k]? = some x) (hy : ys[k]? = some y)
    (hq : ∀ hn, IsZip hn zz ti to (rawInt s.heap.objs.size) → IsPair hn to x y → O1 (k + 1) hn → O2 (k + 1) hn → IsPair hn s.heap.objs.size x y → hn.objs.size = s.heap.objs.size + 1 →
      (∀ c o, c ≠ zz → c ≠ to → c ≠ a1 → c ≠ a2 → s.heap.get? c = some o → hn.get? c = some o) → Q (.ref s.heap.objs.size) { s with heap := hn }) :
    wpAny (model prog w) A (Builtin.«zip.__next__» ⟨[.ref zz], []⟩) (fun f s' => ∃ v, f = .done (.ret v) ∧ Q v s') E s := by
  refine wpAny_bind (m := field (.ref zz) 2) (wpAny_field hz rfl (x := .bool false) rfl ?_)
  refine wpAny_bind (m := field (.ref zz) 3) (wpAny_field hz rfl (x := .ref ti) rfl ?_)
  refine wpAny_bind (wpAny_seqItems hti rfl ?_)
  refine wpAny_bind (m := Builtin.SmallTypes.ownedTupleIsFree (.ref zz)) ?_
  unfold Builtin.SmallTypes.ownedTupleIsFree
  refine wpAny_bind (wpAny_field hz rfl (x := .none) rfl (wpAny_pure ?_))
  simp only [if_true]
  refine wpAny_bind (wpAny_rule (wpAny_bind (wpAny_field hz rfl (x := .ref to) rfl ?_)))
  refine wpAny_bind (wpAny_setField_rec hz (by simp) fun g1 (z1 : IsZip g1 zz ti to .ellipsis) e1 => wpAny_bind ?_)
  simp only [List.zipIdx_cons, List.zipIdx_nil, List.forIn_cons, List.forIn_nil]
  refine wpAny_bind (wpAny_bind (wpAny_onRaise (wpAny_bind (m := Builtin.SmallTypes.nextOf (.ref a1)) ?_)))
  have o1' : O1 k g1 := S1.keep o1 (fun o e => e1.extBut _ _ D.i1z e) fun o e => e1.extBut _ _ D.l1z e
  refine S1.item o1' hx fun g2 n1 e2 => wpAny_pure ?_
  have t2 : IsPair g2 to p q := e2.extBut _ _ D.TOi1 (e1.extBut _ _ D.TOz hto)
  refine wpAny_bind (wpAny_seqItems t2 rfl (wpAny_bind (wpAny_updateSeq_pair t2 fun g3 (t3 : IsPair g3 to x q) e3 => wpAny_bind (wpAny_letGo (wpAny_pure ?_)))))
  refine wpAny_bind (wpAny_bind (wpAny_onRaise (wpAny_bind (m := Builtin.SmallTypes.nextOf (.ref a2)) ?_)))
  have o2' : O2 k g3 := S2.keep o2 (fun o e => e3.extBut _ _ D.TOi2.symm (e2.extBut _ _ D.i12.symm (e1.extBut _ _ D.i2z e))) fun o e => e3.extBut _ _ D.l2TO (e2.extBut _ _ D.l2i1 (e1.extBut _ _ D.l2z e))
  refine S2.item o2' hy fun g4 n2 e4 => wpAny_pure ?_
  have t4 : IsPair g4 to x q := e4.extBut _ _ D.TOi2 t3
  refine wpAny_bind (wpAny_seqItems t4 rfl (wpAny_bind (wpAny_updateSeq_pair t4 fun g5 (t5 : IsPair g5 to x y) e5 => wpAny_bind (wpAny_letGo (wpAny_pure (wpAny_pure ?_))))))
  refine wpAny_bind (wpAny_seqItems t5 rfl (wpAny_bind (wpAny_newTuple ?_)))
  have sz : g5.objs.size = s.heap.objs.size := by rw [e5.1, e4.1, e3.1, e2.1, e1.1]
  have z5 : IsZip g5 zz ti to .ellipsis := e5.extBut _ _ D.TOz.symm (e4.extBut _ _ D.i2z.symm (e3.extBut _ _ D.TOz.symm (e2.extBut _ _ D.i1z.symm z1)))
  have k5 : ∀ c o, c ≠ zz → c ≠ to → c ≠ a1 → c ≠ a2 → s.heap.get? c = some o → g5.get? c = some o := fun c o c1 c2 c3 c4 e => e5.extBut _ _ c2 (e4.extBut _ _ c4 (e3.extBut _ _ c2 (e2.extBut _ _ c3 (e1.extBut _ _ c1 e))))
  have m1 : O1 (k + 1) g5 := S1.keep n1 (fun o e => e5.extBut _ _ D.TOi1.symm (e4.extBut _ _ D.i12 (e3.extBut _ _ D.TOi1.symm e))) fun o e => e5.extBut _ _ D.l1TO (e4.extBut _ _ D.l1i2 (e3.extBut _ _ D.l1TO e))
  have m2 : O2 (k + 1) g5 := S2.keep n2 (fun o e => e5.extBut _ _ D.TOi2.symm e) fun o e => e5.extBut _ _ D.l2TO e
  have zl : zz < g5.objs.size := Heap.lt_size z5
  refine wpAny_bind (m := Builtin.SmallTypes.ownedTupleHandOut (.ref zz) (.ref g5.objs.size)) ?_
  unfold Builtin.SmallTypes.ownedTupleHandOut
  have z6 : IsZip (g5.push { cls := .type "tuple", data := .seq #[x, y] }) zz ti to .ellipsis := Heap.get?_push_of_some _ z5
  refine wpAny_bind (wpAny_setField_rec z6 (by simp) fun g7 (z7 : IsZip g7 zz ti to (rawInt g5.objs.size)) e7 => ?_)
  refine wpAny_setField_rec z7 (by simp) fun g8 (z8 : IsZip g8 zz ti to (rawInt g5.objs.size)) e8 => ?_
  have up : ∀ c o, c ≠ zz → g5.get? c = some o → g8.get? c = some o := fun c o c1 e => e8.extBut _ _ c1 (e7.extBut _ _ c1 (Heap.get?_push_of_some _ e))
  have t8 : IsPair g8 g5.objs.size x y := e8.extBut _ _ (Nat.ne_of_gt zl) (e7.extBut _ _ (Nat.ne_of_gt zl) (Heap.get?_push_size _ rfl))
  have sz8 : g8.objs.size = g5.objs.size + 1 := by rw [e8.1, e7.1, Heap.size_push]
  rw [sz] at z8 t8 sz8
  refine wpAny_pure ⟨.ref g5.objs.size, rfl, ?_⟩
  rw [sz]
  exact hq g8 z8 (up _ _ D.TOz t5) (S1.keep m1 (fun o e => up _ o D.i1z e) fun o e => up _ o D.l1z e) (S2.keep m2 (fun o e => up _ o D.i2z e) fun o e => up _ o D.l2z e) t8 sz8 fun c o c1 c2 c3 c4 e => up c o c1 (k5 c o c1 c2 c3 c4 e)
theorem zip_stop {Q : Fin → Shared → Prop} (nh : A.handled = none) (D : ZipApart zz ti to a1 a2 b1 b2) (S1 : Side prog w a1 b1 xs O1) (S2 : Side prog w a2 b2 ys O2)
    (hz : IsZip s.heap zz ti to .none) (hti : IsPair s.heap ti (.ref a1) (.ref a2)) (hto : IsPair s.heap to p q) (o1 : O1 k s.heap) (o2 : O2 k s.heap) (hend : xs[k]? = none ∨ ys[k]? = none)
    (hq : ∀ hn e, (∀ c o, c ≠ zz → c ≠ to → c ≠ a1 → c ≠ a2 → s.heap.get? c = some o → hn.get? c = some o) → (∃ o, hn.get? e = some o ∧ o.cls = .type "StopIteration") → E (.ref e) { s with heap := hn }) :
    wpAny (model prog w) A (Builtin.«zip.__next__» ⟨[.ref zz], []⟩) Q E s := by
  refine wpAny_bind (m := field (.ref zz) 2) (wpAny_field hz rfl (x := .bool false) rfl ?_)
  refine wpAny_bind (m := field (.ref zz) 3) (wpAny_field hz rfl (x := .ref ti) rfl ?_)
  refine wpAny_bind (wpAny_seqItems hti rfl ?_)
  refine wpAny_bind (m := Builtin.SmallTypes.ownedTupleIsFree (.ref zz)) ?_
  unfold Builtin.SmallTypes.ownedTupleIsFree
  refine wpAny_bind (wpAny_field hz rfl (x := .none) rfl (wpAny_pure ?_))
  simp only [if_true]
  refine wpAny_bind (wpAny_rule (wpAny_bind (wpAny_field hz rfl (x := .ref to) rfl ?_)))
  refine wpAny_bind (wpAny_setField_rec hz (by simp) fun g1 (z1 : IsZip g1 zz ti to .ellipsis) e1 => wpAny_bind ?_)
  simp only [List.zipIdx_cons, List.zipIdx_nil, List.forIn_cons, List.forIn_nil]
  refine wpAny_bind (wpAny_bind (wpAny_onRaise (wpAny_bind (m := Builtin.SmallTypes.nextOf (.ref a1)) ?_)))
  have o1' : O1 k g1 := S1.keep o1 (fun o e => e1.extBut _ _ D.i1z e) fun o e => e1.extBut _ _ D.l1z e
  cases hx : xs[k]? with
  | none =>
    refine S1.stop nh o1' hx fun g2 e e2 he => ?_
    obtain ⟨oe, he1, he2⟩ := he
    have z2 : IsZip g2 zz ti to .ellipsis := e2 _ _ D.i1z.symm z1
    have ne : e ≠ zz := fun u => by
      subst u
      rw [z2] at he1
      cases he1
      simp at he2
    exact wpAny_setField_rec z2 (by simp) fun g3 _ e3 => hq g3 e (fun c o c1 _ c3 _ u => e3.extBut _ _ c1 (e2 _ _ c3 (e1.extBut _ _ c1 u))) ⟨oe, e3.extBut _ _ ne he1, he2⟩
  | some x =>
    have hy : ys[k]? = none := by
      rcases hend with h | h
      · rw [hx] at h
        cases h
      · exact h
    refine S1.item o1' hx fun g2 n1 e2 => wpAny_pure ?_
    have t2 : IsPair g2 to p q := e2.extBut _ _ D.TOi1 (e1.extBut _ _ D.TOz hto)
    refine wpAny_bind (wpAny_seqItems t2 rfl (wpAny_bind (wpAny_updateSeq_pair t2 fun g3 (t3 : IsPair g3 to x q) e3 => wpAny_bind (wpAny_letGo (wpAny_pure ?_)))))
    refine wpAny_bind (wpAny_bind (wpAny_onRaise (wpAny_bind (m := Builtin.SmallTypes.nextOf (.ref a2)) ?_)))
    have o2' : O2 k g3 := S2.keep o2 (fun o e => e3.extBut _ _ D.TOi2.symm (e2.extBut _ _ D.i12.symm (e1.extBut _ _ D.i2z e))) fun o e => e3.extBut _ _ D.l2TO (e2.extBut _ _ D.l2i1 (e1.extBut _ _ D.l2z e))
    refine S2.stop nh o2' hy fun g4 e e4 he => ?_
    obtain ⟨oe, he1, he2⟩ := he
    have z4 : IsZip g4 zz ti to .ellipsis := e4 _ _ D.i2z.symm (e3.extBut _ _ D.TOz.symm (e2.extBut _ _ D.i1z.symm z1))
    have ne : e ≠ zz := fun u => by
      subst u
      rw [z4] at he1
      cases he1
      simp at he2
    exact wpAny_setField_rec z4 (by simp) fun g5 _ e5 => hq g5 e (fun c o c1 c2 c3 c4 u => e5.extBut _ _ c1 (e4 _ _ c4 (e3.extBut _ _ c2 (e2.extBut _ _ c3 (e1.extBut _ _ c1 u))))) ⟨oe, e5.extBut _ _ ne he1, he2⟩
end
end Pu.Zm
end

section
set_option maxHeartbeats 2000000
namespace Pu.Zm
open PySem PySem.Spec PyProof.Rows L2
section
variable {prog : Program} {w : World} {A : Around} {E : Value → Shared → Prop} {s : Shared} {zz ti to a1 a2 b1 b2 : Addr} {k : Nat} {xs ys : Array Value} {O1 O2 : Nat → Heap → Prop} {p q : Value}
theorem next_item {x y : Value} {Q : Option Value → Shared → Prop} (D : ZipApart zz ti to a1 a2 b1 b2) (S1 : Side prog w a1 b1 xs O1) (S2 : Side prog w a2 b2 ys O2)
    (hz : IsZip s.heap zz ti to .none) (hti : IsPair s.heap ti (.ref a1) (.ref a2)) (hto : IsPair s.heap to p q) (o1 : O1 k s.heap) (o2 : O2 k s.heap) (hx : xs[k]? = some x) (hy : ys[k]? = some y)
    (hq : ∀ hn, IsZip hn zz ti to (rawInt s.heap.objs.size) → IsPair hn to x y → O1 (k + 1) hn → O2 (k + 1) hn → IsPair hn s.heap.objs.size x y → hn.objs.size = s.heap.objs.size + 1 →
      (∀ c o, c ≠ zz → c ≠ to → c ≠ a1 → c ≠ a2 → s.heap.get? c = some o → hn.get? c = some o) → Q (some (.ref s.heap.objs.size)) { s with heap := hn }) :
    wpAny (model prog w) A (pyNext (.ref zz)) Q E s := by
  have ty : s.TypeIs (.ref zz) "zip" := ⟨_, hz, rfl⟩
  have run := zip_item (A := A.in1) (E := E) (Q := fun v s' => Q (some v) s') D S1 S2 hz hti hto o1 o2 hx hy hq
  unfold pyNext
  refine wpAny_bind (wpAny_attempt (wpAny_callSpecial?_slot (name := Str.ofString "__next__") ty F.slot_zip_next ?_))
  exact wpAny_call_entry F.slot_zip_next ty F.entry_zip_next (zip_item D S1 S2 hz hti hto o1 o2 hx hy fun hn u1 u2 u3 u4 u5 u6 u7 => wpAny_pure (hq hn u1 u2 u3 u4 u5 u6 u7)) (F.args_zip_next_1 _)
theorem next_stop {Q : Option Value → Shared → Prop} (nh : A.handled = none) (D : ZipApart zz ti to a1 a2 b1 b2) (S1 : Side prog w a1 b1 xs O1) (S2 : Side prog w a2 b2 ys O2)
    (hz : IsZip s.heap zz ti to .none) (hti : IsPair s.heap ti (.ref a1) (.ref a2)) (hto : IsPair s.heap to p q) (o1 : O1 k s.heap) (o2 : O2 k s.heap) (hend : xs[k]? = none ∨ ys[k]? = none)
    (hq : ∀ hn, (∀ c o, c ≠ zz → c ≠ to → c ≠ a1 → c ≠ a2 → s.heap.get? c = some o → hn.get? c = some o) → Q none { s with heap := hn }) : wpAny (model prog w) A (pyNext (.ref zz)) Q E s := by
  have ty : s.TypeIs (.ref zz) "zip" := ⟨_, hz, rfl⟩
  unfold pyNext
  refine wpAny_bind (wpAny_attempt (wpAny_callSpecial?_slot (name := Str.ofString "__next__") ty F.slot_zip_next ?_))
  refine wpAny_call_entry F.slot_zip_next ty F.entry_zip_next (zip_stop nh D S1 S2 hz hti hto o1 o2 hend fun hn e keep ⟨o, ho, hc⟩ => ?_) (F.args_zip_next_1 _)
  exact wpAny_bind (wpAny_isInstance (T := "StopIteration") (b := true) ⟨o, ho, hc⟩ isSubtype_stop (wpAny_pure (hq _ keep)))
end
/-! ### a zip is made of a list and a tuple -/
def itO (c : String) (l : Addr) : Obj := { cls := .type c, data := .fields #[.ref l, .int 0 0] }
def prO (x y : Value) : Obj := { cls := .type "tuple", data := .seq #[x, y] }
def m1 (h : Heap) (l1 : Addr) : Heap := h.push (itO "list_iterator" l1)
def m2 (h : Heap) (l1 l2 : Addr) : Heap := (m1 h l1).push (itO "tuple_iterator" l2)
def m3 (h : Heap) (l1 l2 : Addr) : Heap := (m2 h l1 l2).push (prO (.ref h.objs.size) (.ref (m1 h l1).objs.size))
def m4 (h : Heap) (l1 l2 : Addr) : Heap := (m3 h l1 l2).push (prO .none .none)
def m5 (h : Heap) (l1 l2 : Addr) : Heap := (m4 h l1 l2).push { cls := .type "zip", data := .fields #[.none, .bool false, .bool false, .ref (m2 h l1 l2).objs.size, .ref (m3 h l1 l2).objs.size] }
theorem new_zip (l1 l2 : Addr) (xs ys : Array Value) : Meets (Builtin.«zip.__new__» ⟨[.type "zip", .ref l1, .ref l2], []⟩) fun _ R s =>
    s.heap.IsList l1 xs ∧ s.heap.IsTuple l2 ys ∧ R (.ok (.ret (.ref (m4 s.heap l1 l2).objs.size))) { s with heap := m5 s.heap l1 l2 } := .of_wp fun prog w A R s h => by
  obtain ⟨hp, g, d, tk, os⟩ := s
  obtain ⟨il, it, r⟩ := h
  have hsub := sub_zip
  have k1 : Heap.IsList (Shared.heap ⟨hp, g, d, tk, os⟩) l1 xs := il
  have k2 : Heap.IsTuple (Shared.heap ⟨hp.push (itO "list_iterator" l1), g, d, tk, os⟩) l2 ys := Heap.IsTuple.push it _
  unfold itO at k2
  wp_walk using wpAny_pyIter_list k1, wpAny_pyIter_tuple k2
  exact ⟨_, rfl, r⟩
section
variable {prog : Program} {w : World} {A : Around} {E : Value → Shared → Prop} {s : Shared}
theorem push2 {h : Heap} {a : Addr} {o : Obj} (u : Obj) (e : h.get? a = some o) : (h.push u).get? a = some o := Heap.get?_push_of_some _ e
theorem call_lt {l1 l2 : Addr} {xs ys : Array Value} {Q : Value → Shared → Prop} (il : s.heap.IsList l1 xs) (it : s.heap.IsTuple l2 ys)
    (r : ∀ hn, IsZip hn (s.heap.objs.size + 4) (s.heap.objs.size + 2) (s.heap.objs.size + 3) .none → IsPair hn (s.heap.objs.size + 2) (.ref s.heap.objs.size) (.ref (s.heap.objs.size + 1)) → IsPair hn (s.heap.objs.size + 3) .none .none →
      hn.IsListIter s.heap.objs.size l1 0 → hn.IsTupleIter (s.heap.objs.size + 1) l2 0 → (∀ c o, s.heap.get? c = some o → hn.get? c = some o) → Q (.ref (s.heap.objs.size + 4)) { s with heap := hn }) :
    wpAny (model prog w) A (call (.type "zip") [.ref l1, .ref l2]) Q E s := by
  refine callType_new F.called_zip (by decide) (F.typeCall_zip_2 _ _) (F.newCall_zip_2 _ _) (fun u => F.args_object_init_3 u _ _) F.entry_zip_new (new_zip l1 l2 xs ys) ⟨il, it, ?_⟩
  have n1 : (m1 s.heap l1).objs.size = s.heap.objs.size + 1 := Heap.size_push ..
  have n2 : (m2 s.heap l1 l2).objs.size = s.heap.objs.size + 2 := (Heap.size_push ..).trans (by rw [n1])
  have n3 : (m3 s.heap l1 l2).objs.size = s.heap.objs.size + 3 := (Heap.size_push ..).trans (by rw [n2])
  have n4 : (m4 s.heap l1 l2).objs.size = s.heap.objs.size + 4 := (Heap.size_push ..).trans (by rw [n3])
  have f5 : (m5 s.heap l1 l2).get? (m4 s.heap l1 l2).objs.size = some _ := Heap.get?_push_size _ rfl
  have f4 : (m5 s.heap l1 l2).get? (m3 s.heap l1 l2).objs.size = some (prO .none .none) := push2 _ (Heap.get?_push_size _ rfl)
  have f3 : (m5 s.heap l1 l2).get? (m2 s.heap l1 l2).objs.size = some (prO (.ref s.heap.objs.size) (.ref (m1 s.heap l1).objs.size)) := push2 _ (push2 _ (Heap.get?_push_size _ rfl))
  have f2 : (m5 s.heap l1 l2).get? (m1 s.heap l1).objs.size = some (itO "tuple_iterator" l2) := push2 _ (push2 _ (push2 _ (Heap.get?_push_size _ rfl)))
  have f1 : (m5 s.heap l1 l2).get? s.heap.objs.size = some (itO "list_iterator" l1) := push2 _ (push2 _ (push2 _ (push2 _ (Heap.get?_push_size _ rfl))))
  show _ ∧ _
  rw [n2, n3, n4] at f5
  rw [n1, n2] at f3
  rw [n3] at f4
  rw [n1] at f2
  rw [n4]
  exact ⟨⟨_, f5, rfl⟩, r _ f5 f3 f4 ⟨_, f1, rfl, rfl⟩ ⟨_, f2, rfl, rfl⟩ fun c o e => push2 _ (push2 _ (push2 _ (push2 _ (push2 _ e))))⟩
end
end Pu.Zm
end

section
set_option maxHeartbeats 2000000
namespace Pu
open PySem PySem.Spec PyProof.Rows L2
/-! ### for .. in zip(xs, ys), a list and a tuple -/
def Itm (K : PySem.W.Frag) (a b : Addr) : It where
  go i H := ∃ (us vs : List V) (u v : V), SqL K H a us ∧ SqT K H b vs ∧ us[i]? = some u ∧ vs[i]? = some v
  yld i H r H' := ∃ T u v, r = .ref T ∧ H T = none ∧ H' = upd H T (.tup [u, v]) ∧ (∀ us, SqL K H a us → us[i]? = some u) ∧ ∀ vs, SqT K H b vs → vs[i]? = some v
  stop i H := ∃ us vs : List V, SqL K H a us ∧ SqT K H b vs ∧ (us.length ≤ i ∨ vs.length ≤ i)
/-- the zip's own objects at the i-th turn -/
structure ZSt (zz ti to i1 i2 a b : Addr) (i : Nat) (h : Heap) : Prop where
  z : IsZip h zz ti to .none
  p : IsPair h ti (.ref i1) (.ref i2)
  o : ∃ u v, IsPair h to u v
  l : h.IsListIter i1 a i
  t : h.IsTupleIter i2 b i
theorem turn_m {P : Program} {w : World} {K : PySem.W.Frag} {elts : List Expr} {kk : Nat} {tpos : Pos} {a b zz ti to i1 i2 : Addr} (D : ZipApart zz ti to i1 i2 a b) : Turn P w K (.Tuple elts kk tpos) (Itm K a b) [zz, ti, to, i1, i2] zz (ZSt zz ti to i1 i2 a b) where
  mem := List.mem_cons_self
  obj i h S c hc := by
    obtain ⟨_, _, z3⟩ := S.o
    obtain ⟨oL, l1, _, l3⟩ := S.l
    obtain ⟨oT, t1, _, t3⟩ := S.t
    simp only [List.mem_cons, List.not_mem_nil, or_false] at hc
    rcases hc with rfl | rfl | rfl | rfl | rfl
    · exact ⟨_, S.z, fun v => nofun⟩
    · exact ⟨_, S.p, fun v => nofun⟩
    · exact ⟨_, z3, fun v => nofun⟩
    · exact ⟨_, l1, fun v q => by rw [l3] at q; cases q⟩
    · exact ⟨_, t1, fun v q => by rw [t3] at q; cases q⟩
  keep i h h' S k := by
    obtain ⟨u, v, z3⟩ := S.o
    exact ⟨k zz (by simp) _ S.z, k ti (by simp) _ S.p, ⟨u, v, k to (by simp) _ z3⟩, S.l.at fun o => k i1 (by simp) o, S.t.at fun o => k i2 (by simp) o⟩
  item := by
    intro X e1 e2 e3 _ i pins s σ H E I ff S go
    subst e1 e2 e3
    obtain ⟨u0, v0, z3⟩ := S.o
    obtain ⟨us, vs, u, v, q1, q2, g1, g2⟩ := go
    obtain ⟨L1, r1, il, _⟩ := I.list q1
    obtain ⟨L2, r2, it, _⟩ := I.tuple q2
    obtain ⟨x1, y1, w1⟩ := r1.get g1
    obtain ⟨x2, y2, w2⟩ := r2.get g2
    have zl : zz < s.heap.objs.size := Heap.lt_size S.z
    refine Zm.next_item D (Zm.sideL (vals := L1.toArray) D.l1i1) (Zm.sideT (vals := L2.toArray) D.l2i2) S.z S.p z3 ⟨S.l, il.isList⟩ ⟨S.t, it⟩ (x := x1) (y := x2) (by simpa using y1) (by simpa using y2) fun hn zn on l' t' pn sz keep => ?_
    refine ⟨_, rfl, wpAny_letOwnedTupleGo_zip (s := { s with heap := hn }) zn fun h2 z2 sb => ?_⟩
    have p2 : h2.get? s.heap.objs.size = some { cls := .type "tuple", data := .seq #[x1, x2] } := (sb.2 _ (Nat.ne_of_gt zl)).trans pn
    have ok : ObjOk X.prog X.w (upd H s.heap.objs.size (.tup [u, v])) h2 s.heap.objs.size (.tup [u, v]) := ⟨by show 2 ≤ sizeLine; decide, [x1, x2], .cons w1 (.cons w2 .nil), _, p2, rfl, _, rfl⟩
    have J : Inv X pins σ (upd H s.heap.objs.size (.tup [u, v])) { s with heap := h2 } := I.turnedNew (t' := s.toks) (ch := [zz, ti, to, i1, i2]) (fun c o n e => by
      simp only [List.mem_cons, List.not_mem_nil, or_false, not_or] at n
      obtain ⟨n1, n2, n3, n4, n5⟩ := n
      exact (sb.2 c n1).trans (keep c o n1 n3 n4 n5 e)) ff (Nat.le_refl _) ok
    refine ⟨.ref s.heap.objs.size, _, J, rfl, ⟨_, u, v, rfl, I.hok.fresh (Nat.le_refl _), rfl, fun l hl => by rw [I.list_inj hl q1]; exact g1, fun l hl => by rw [I.tuple_inj hl q2]; exact g2⟩, ⟨z2, ?_, ⟨x1, x2, ?_⟩, ?_, ?_⟩, fun c hcm => ?_⟩
    · exact (sb.2 _ D.TIz).trans (keep _ _ D.TIz D.TITO D.TIi1 D.TIi2 S.p)
    · exact (sb.2 _ D.TOz).trans on
    · exact l'.1.at fun o e => (sb.2 _ D.i1z).trans e
    · exact t'.1.at fun o e => (sb.2 _ D.i2z).trans e
    · have lt : c < s.heap.objs.size := by
        obtain ⟨_, l1, _⟩ := S.l
        obtain ⟨_, t1, _⟩ := S.t
        have hm := hcm
        simp only [List.mem_cons, List.not_mem_nil, or_false] at hm
        rcases hm with rfl | rfl | rfl | rfl | rfl
        · exact zl
        · exact Heap.lt_size S.p
        · exact Heap.lt_size z3
        · exact Heap.lt_size l1
        · exact Heap.lt_size t1
      rw [upd_ne (Nat.ne_of_lt lt)]
      exact (ff c hcm).1
  done := by
    intro X e1 e2 e3 calm i pins s σ H E I ff S st
    subst e1 e2 e3
    obtain ⟨u0, v0, z3⟩ := S.o
    obtain ⟨us, vs, q1, q2, hend⟩ := st
    obtain ⟨L1, r1, il, _⟩ := I.list q1
    obtain ⟨L2, r2, it, _⟩ := I.tuple q2
    have n1 := r1.length
    have n2 := r2.length
    have he : L1.toArray[i]? = none ∨ L2.toArray[i]? = none := hend.imp (fun q => by simp; omega) fun q => by simp; omega
    refine Zm.next_stop (I.ok.hd calm) D (Zm.sideL (vals := L1.toArray) D.l1i1) (Zm.sideT (vals := L2.toArray) D.l2i2) S.z S.p z3 ⟨S.l, il.isList⟩ ⟨S.t, it⟩ he fun hn keep => ⟨rfl, I.turnedL (t' := s.toks) (ch := [zz, ti, to, i1, i2]) (fun c o n e => ?_) ff⟩
    simp only [List.mem_cons, List.not_mem_nil, or_false, not_or] at n
    obtain ⟨m1, m2, m3, m4, m5⟩ := n
    exact keep c o m1 m3 m4 m5 e
  self A i s Q E S h := wpAny_pyIter_zip S.z h
def iZipM (K : PySem.W.Frag) (ta : TA) : TI := fun σ H R => ta σ H fun vs H1 => ∃ a b xs ys, vs = [.ref a, .ref b] ∧ ((SqL K H1 a xs ∧ SqL K H1 b ys ∧ R (Itz K a b) H1) ∨ ((SqT K H1 a xs ∧ SqT K H1 b ys ∧ R (RZ.ItzT K a b) H1) ∨ (SqL K H1 a xs ∧ SqT K H1 b ys ∧ R (Itm K a b) H1)))
theorem pi_zipM {X : Cx} {e e2 : Expr} {ta : TA} {p pos tpos : Pos} {elts : List Expr} {kk : Nat} (hg : Gl X "zip") (hm : X.mg "zip" = none) (ha : PA X [e, e2] ta)
    (hs : starEach [e, e2] X.env = (false, eval e X.env) :: starEach [e2] X.env := by rfl) (hpl : (backTo pos (starEach [e2] X.env)).any (·.1) = false := by rfl) : PI X (.Tuple elts kk tpos) (.Call (.Name "zip" p) [e, e2] [] pos) (iZipM X.K ta) := by
  refine ⟨fun pins s σ H R I h => Call_ (ld_blt I hg hm PyProof.Rows.boot_zip (PyProof.Rows.callWith_type1 (thn (ha.run pos pins s σ H _ I h) fun us s1 ⟨vs, H1, I1, r1, a, b, xs, ys, ex, q1⟩ => ?_) hs hpl))⟩
  subst ex
  obtain ⟨u1, u2, rfl, rfl, rfl⟩ : ∃ u1 u2, us = [u1, u2] ∧ u1 = Value.ref a ∧ u2 = Value.ref b := by
    cases r1 with
    | cons c1 t1 =>
      cases t1 with
      | cons c2 t2 =>
        cases t2
        exact ⟨_, _, rfl, c1, c2⟩
  let n := s1.heap.objs.size
  have new : ∀ c ∈ [n + 4, n + 2, n + 3, n, n + 1], FpOk X pins H1 c := fun c hc => by
    have le : n ≤ c := by
      simp only [List.mem_cons, List.not_mem_nil, or_false] at hc
      omega
    exact I1.fpOk le (I1.hok.fresh le)
  rcases q1 with ⟨q1, q2, q⟩ | ⟨q1, q2, q⟩ | ⟨q1, q2, q⟩
  · obtain ⟨L1, _, p1, _⟩ := I1.list q1
    obtain ⟨L2, _, p2, _⟩ := I1.list q2
    refine call_zip_2 p1.isList p2.isList fun hn z1 z2 z3 z4 z5 _ keep => wpAny_pyIter_zip z1 ?_
    exact ⟨n + 4, [n + 4, n + 2, n + 3, n, n + 1], _, _, H1, rfl, I1.kept (t' := s1.toks) keep, turn_zip (PySem.W.ktu_apart n a b p1.lt p2.lt), ⟨z1, z2, ⟨_, _, z3⟩, z4, z5⟩, new, q⟩
  · obtain ⟨L1, _, p1, _⟩ := I1.tuple q1
    obtain ⟨L2, _, p2, _⟩ := I1.tuple q2
    have ⟨_, g1, _⟩ := p1
    have ⟨_, g2, _⟩ := p2
    refine RZ.call_zipT (xs := L1.toArray) (ys := L2.toArray) p1 p2 fun hn z1 z2 z3 z4 z5 _ keep => wpAny_pyIter_zip z1 ?_
    exact ⟨n + 4, [n + 4, n + 2, n + 3, n, n + 1], _, _, H1, rfl, I1.kept (t' := s1.toks) keep, RZ.turn_zipT (PySem.W.ktu_apart n a b (Heap.lt_size g1) (Heap.lt_size g2)), ⟨z1, z2, ⟨_, _, z3⟩, z4, z5⟩, new, q⟩
  · obtain ⟨L1, _, p1, _⟩ := I1.list q1
    obtain ⟨L2, _, p2, _⟩ := I1.tuple q2
    have ⟨_, g2, _⟩ := p2
    refine Zm.call_lt (xs := L1.toArray) (ys := L2.toArray) p1.isList p2 fun hn z1 z2 z3 z4 z5 keep => wpAny_pyIter_zip z1 ?_
    exact ⟨n + 4, [n + 4, n + 2, n + 3, n, n + 1], _, _, H1, rfl, I1.kept (t' := s1.toks) keep, turn_m (PySem.W.ktu_apart n a b p1.lt (Heap.lt_size g2)), ⟨z1, z2, ⟨_, _, z3⟩, z4, z5⟩, new, q⟩
/-! #### the mirror -/
section
variable {C : Ctx} {K : PySem.W.Frag} {fz : Bool} {G H : Hp} {a b : Addr} {vs ws : List V} {ds es : List D}
theorem walk_m {n : Nat} {xs ys : List V} (hn : n = min xs.length ys.length) : Walk (Itm K a b) n (fun H => SqL K H a xs ∧ SqT K H b ys) (YPair (fun i => xs[i]?) (fun i => ys[i]?)) := by
  subst hn
  refine ⟨fun i H hi q => ?_, fun H q => ⟨xs, ys, q.1, q.2, by omega⟩, fun i H v H' hi q y => ?_⟩
  · have c1 : i < xs.length := by omega
    have c2 : i < ys.length := by omega
    exact ⟨xs, ys, xs[i], ys[i], q.1, q.2, List.getElem?_eq_getElem c1, List.getElem?_eq_getElem c2⟩
  · obtain ⟨T, x, z, y1, y2, y3, y4, y5⟩ := y
    exact ⟨T, x, z, y1, y2, y3, y4 xs q.1, y5 ys q.2⟩
theorem it_zipM (s : Stay C fz G H a (.lst vs)) (t : Stay C fz G H b (.tup ws)) (r : Reps C G vs ds) (q : Reps C G ws es) : ItOk C fz G H (Itm K a b) (zipD ds es) := by
  have w := walk_m (K := K) (a := a) (b := b) (xs := vs) (ys := ws) (n := (zipD ds es).length) (by rw [zipD_len, r.length, q.length])
  refine ⟨_, _, w, fun G' H' s1 s2 k => ⟨SqL.of (s.at s1 s2 k fun _ z => by cases z), SqT.of (t.at s1 s2 k fun _ z => by cases z)⟩, fun i d G' H' x H'' hd s1 s2 y => ?_⟩
  obtain ⟨d1, d2, h1, h2, rfl⟩ := zip_at hd
  exact pair_rep s2 (rep_at r s1 h1) (rep_at q s1 h2) y
end
/-- zip of two lists, of two tuples, of a list and a tuple -/
def kZipM : List D → Option (List D)
  | [.lst xs, .lst ys] => some (zipD xs ys)
  | [.tup xs, .tup ys] => some (zipD xs ys)
  | [.lst xs, .tup ys] => some (zipD xs ys)
  | _ => none
def mZipM (a : AM) : AM := fun env p => (a env p).bind fun ds q => match kZipM ds with
  | some z => .ok z q
  | none => .bad
theorem Reps.pair {C : Ctx} {G : Hp} {vs : List V} {d e : D} (h : Reps C G vs [d, e]) : ∃ v w, vs = [v, w] ∧ Rep C G v d ∧ Rep C G w e := by
  cases h with
  | cons h t =>
    cases t with
    | cons h2 t =>
      cases t
      exact ⟨_, _, rfl, h, h2⟩
section
variable {X : Cx} {C : Ctx} {W : WX} {fz : Bool} {e e2 : Expr} {a : AM} {p pos : Pos}
theorem im_zipM {elts : List Expr} {kk : Nat} {tpos : Pos} (hK : C.K = X.K) (hm : X.mg "zip" = none) (h : PA X [e, e2] (rA C W a)) (hg : Gl X "zip" := by rfl) (hs : starEach [e, e2] X.env = (false, eval e X.env) :: starEach [e2] X.env := by rfl) (hpl : (backTo pos (starEach [e2] X.env)).any (·.1) = false := by rfl) :
    PI X (.Tuple elts kk tpos) (.Call (.Name "zip" p) [e, e2] [] pos) (rI C W fz (mZipM a)) := (pi_zipM hg hm h hs hpl).of fun σ H R ⟨G, env, p, L, o⟩ => by
  refine ⟨G, env, p, L, o.bind.imp (fun ds q z vs G1 H1 x1 y1 r1 => ?_) fun _ _ z => z⟩
  unfold kZipM at z
  split at z
  · rename_i u hu
    split at hu
    · cases hu
      obtain ⟨v1, v2, rfl, c1, c2⟩ := r1.pair
      cases c1 with
      | lst h1 q1 =>
        cases c2 with
        | lst h2 q2 => exact ⟨_, _, _, _, rfl, .inl ⟨SqL.of (x1.sub _ _ h1), SqL.of (x1.sub _ _ h2), z _ G1 H1 x1 y1 (it_zipL (.inl h1) (.inl h2) q1 q2)⟩⟩
    · cases hu
      obtain ⟨v1, v2, rfl, c1, c2⟩ := r1.pair
      cases c1 with
      | tup h1 q1 =>
        cases c2 with
        | tup h2 q2 => exact ⟨_, _, _, _, rfl, .inr (.inl ⟨SqT.of (x1.sub _ _ h1), SqT.of (x1.sub _ _ h2), z _ G1 H1 x1 y1 (it_zipT (.inl h1) (.inl h2) q1 q2)⟩)⟩
    · cases hu
      obtain ⟨v1, v2, rfl, c1, c2⟩ := r1.pair
      cases c1 with
      | lst h1 q1 =>
        cases c2 with
        | tup h2 q2 => exact ⟨_, _, _, _, rfl, .inr (.inr ⟨SqL.of (x1.sub _ _ h1), SqT.of (x1.sub _ _ h2), z _ G1 H1 x1 y1 (it_zipM (.inl h1) (.inl h2) q1 q2)⟩)⟩
    · cases hu
  · exact z.elim
end
end Pu
end

section
set_option maxHeartbeats 2000000
namespace Pu
open PySem PySem.Spec PyProof.Rows L2
/-! ### targets that are subscripts: xs[i], ys[j] = a, b -/
abbrev XM := D → SM
abbrev XMs := List D → SM
abbrev endX (Q : St → Hp → Prop) : Ends := { nx := Q, rt := fun _ _ => False, bk := fun _ _ => False, ct := fun _ _ => False }
def rX (C : Ctx) (W : WX) (g : XM) : TG := fun v σ H Q => ∃ G0 H0 G env p d, SOk C G0 H0 G H σ env p ∧ Rep C G v d ∧ ResP C W G0 H0 G (endX Q) (g d env p)
def rXs (C : Ctx) (W : WX) (g : XMs) : TGs := fun vs σ H Q => ∃ G0 H0 G env p ds, SOk C G0 H0 G H σ env p ∧ Reps C G vs ds ∧ ResP C W G0 H0 G (endX Q) (g ds env p)
def xNm (i : Nat) : XM := fun d env p => .next (env.set i (.val d)) p
def xIx (i : Nat) (ma : EM) : XM := fun d env p => match env[i]? with
  | some (.own ds) => (ma env p).res env fun k q => match k with
    | .int n => match ixN ds.length n with
      | some j => .next (env.set i (.own (ds.set j d))) q
      | none => .bad
    | _ => .bad
  | _ => .bad
def xsNil : XMs := fun ds env p => match ds with
  | [] => .next env p
  | _ => .bad
def xsCons (g : XM) (gs : XMs) : XMs := fun ds env p => match ds with
  | d :: r => (match g d env p with
    | .next env2 q => gs r env2 q
    | .err e env2 q => .err e env2 q
    | _ => .bad)
  | [] => .bad
def xTp (n : Nat) (gs : XMs) : XM := fun d env p => match d with
  | .tup ds => if ds.length = n then gs ds env p else .bad
  | _ => .bad
def onlyX (r : Res) : Res := match r with
  | .next env q => .next env q
  | .err e env q => .err e env q
  | _ => .bad
def mSetX (m : EM) (g : XM) : SM := fun env p => (m env p).res env fun d q => onlyX (g d env q)
section
variable {X : Cx} {C : Ctx} {W : WX} {x : Str} {m ma : EM} {pos : Pos}
theorem xm_name (i : Nat) (hN : X.N.Nodup) (hi : X.N[i]? = some x := by rfl) (hx : Loc X.env.scope x := by first | exact Or.inl rfl | exact Or.inr rfl) (hf : X.fn x = true ∨ X.env.scope.names.lookup x = some .local := by first | exact .inl rfl | exact .inr rfl) : PG X (.Name x pos) (rX C W (xNm i)) :=
  (pg_name hN hi hx hf).of fun v σ H Q ⟨G0, H0, G, env, p, d, S, r, o⟩ => o _ G H (S.setV i r) (Sub.refl _)
theorem xm_ix (i : Nat) {p1 sp : Pos} {a : Expr} (ha : PE X a (rB C W ma)) (hN : X.N[i]? = some x := by rfl) (hv : Vis X.env.scope x := by first | exact Or.inl rfl | exact Or.inr (Or.inl rfl) | exact Or.inr (Or.inr rfl)) (hd : (x == ("__debug__" : Str)) = false := by decide)
    (hcd : (x == ("__classdict__" : Str)) = false := by decide)
    (hg : ∀ v, assign (.Subscript (.Name x p1) a sp) X.env v = (do
      let ov ← holding [v] (eval (.Name x p1) X.env)
      let iv ← holding [v, ov] (eval a X.env)
      standAt sp
      holding [v, ov, iv] (setItem ov iv v)
      release [v, ov, iv] []) := by intro _; rfl) : PG X (.Subscript (.Name x p1) a sp) (rX C W (xIx i ma)) :=
  (pg_sub (pe_var hN hv hd hcd) ha set_list hg).of fun v σ H Q ⟨G0, H0, G, env, p, d, S, r, o⟩ => by
    unfold xIx at o
    split at o
    · rename_i ds hi
      obtain ⟨l, vs, k1, k2, k3⟩ := S.ownAt hi
      refine ⟨_, k1, G, env, p, S.l, (o.out S).imp (fun k q z u G2 H2 x2 y2 r2 => ?_) fun _ _ z => z⟩
      have S2 := S.step x2 y2
      split at z
      · rename_i n
        split at z
        · rename_i j hj
          refine ⟨l, vs, n, j, rfl, r2.int, x2.stayL S.l.pen k2, by rw [k3.length]; exact hj, ?_⟩
          exact z σ G2 _ (S2.updO hi k1 ((k3.mono x2.gro).set j (r.mono x2.gro))) x2.gro
        · exact z.elim
      · exact z.elim
    · exact o.elim
theorem xs_nil : PGs X [] (rXs C W xsNil) := pgs_nil.of fun vs σ H Q ⟨G0, H0, G, env, p, ds, S, r, o⟩ => by
  cases r with
  | nil => exact ⟨rfl, o σ G H S (Sub.refl _)⟩
  | cons _ _ => exact o.elim
theorem xs_cons {e : Expr} {es : List Expr} {g : XM} {gs : XMs} (h1 : PG X e (rX C W g)) (h2 : PGs X es (rXs C W gs)) (hs : (assignEach (e :: es) X.env).map (·.2) = assign e X.env :: (assignEach es X.env).map (·.2) := by rfl) : PGs X (e :: es) (rXs C W (xsCons g gs)) :=
  (pgs_cons h1 h2 hs).of fun vs σ H Q ⟨G0, H0, G, env, p, ds, S, r, o⟩ => by
    cases r with
    | nil => exact o.elim
    | @cons v d vs ds r1 r2 =>
      refine ⟨v, vs, rfl, G0, H0, G, env, p, d, S, r1, ?_⟩
      have o1 : ResP C W G0 H0 G (endX Q) (match g d env p with
        | .next env2 q => gs ds env2 q
        | .err e env2 q => .err e env2 q
        | _ => .bad) := o
      cases eg : g d env p with
      | next env2 q =>
        rw [eg] at o1
        exact fun σ' G' H' S' s' => ⟨G0, H0, G', env2, q, ds, S', r2.mono s', o1.gro s'⟩
      | err e env2 q =>
        rw [eg] at o1
        exact o1
      | ret _ _ => rw [eg] at o1; exact o1.elim
      | brk _ _ => rw [eg] at o1; exact o1.elim
      | cnt _ _ => rw [eg] at o1; exact o1.elim
      | bad => rw [eg] at o1; exact o1.elim
theorem xm_tup {es : List Expr} {k n : Nat} {gs : XMs} (hc : X.calm = true) (h : PGs X es (rXs C W gs)) (hn : (assignEach es X.env).length = n := by rfl) (hst : (assignEach es X.env).findIdx? (·.1) = none := by rfl) : PG X (.Tuple es k pos) (rX C W (xTp n gs)) :=
  (pg_tup hc h hn hst).of fun v σ H Q ⟨G0, H0, G, env, p, d, S, r, o⟩ => by
    cases r with
    | @tup a vs ds h1 r1 =>
      have o1 : ResP C W G0 H0 G (endX Q) (if ds.length = n then gs ds env p else .bad) := o
      by_cases hl : ds.length = n
      · rw [if_pos hl] at o1
        exact ⟨a, vs, rfl, SqT.of (S.l.sub _ _ h1), by rw [r1.length]; exact hl, G0, H0, G, env, p, ds, S, r1, o1⟩
      · rw [if_neg hl] at o1
        exact o1.elim
    | _ => exact False.elim o
theorem sm_asgX {tg e : Expr} {g : XM} (h : PE X e (rE C W m)) (hg : PG X tg (rX C W g)) (hs : swapsWithSole [tg] e pos.line X.env = pure false := by rfl) (hw : swappedStores [tg] e X.env = pure none := by rfl)
    (h1 : (assignEach [tg] X.env).map (·.2) = [assign tg X.env] := by rfl) : PS X (.Assign [tg] e pos) (rS C W (mSetX m g)) := (ps_asg h hg hs hw h1).of fun D σ H ⟨G0, H0, G, env, p, S, o⟩ => by
  refine ⟨G, env, p, S.l, (o.out S).imp (fun d q z v G1 H1 x1 y1 r1 => ?_) fun _ _ z => z⟩
  refine ⟨G0, H0, G1, env, q, d, S.step x1 y1, r1, ?_⟩
  have z1 := z.gro x1.gro
  unfold onlyX at z1
  cases eg : g d env q with
  | next env2 q2 => rw [eg] at z1; exact z1
  | err e env2 q2 => rw [eg] at z1; exact z1
  | ret _ _ => rw [eg] at z1; exact z1.elim
  | brk _ _ => rw [eg] at z1; exact z1.elim
  | cnt _ _ => rw [eg] at z1; exact z1.elim
  | bad => rw [eg] at z1; exact z1.elim
end
end Pu
end

section
set_option maxHeartbeats 2000000
namespace Pu
open PySem PySem.Spec PyProof.Rows L2
/-! ### the head's hook with the looked-at places given -/
def obsL (pl : List Addr) (fa : List He.Fa) (fn : List He.DefD) (tf : List He.Defn) (ex : PySem.W.Frag → Bool) (g : Addr → Option Obj) : He.AlX := (fun K => (He.obsT fa fn [] K, ex K && He.tabsB g tf K)) (He.frT g pl)
theorem saysL {pl : List Addr} {fa : List He.Fa} {fn : List He.DefD} {tf : List He.Defn} {ex : PySem.W.Frag → Bool} {w : World} {h : Heap} (e : obsL pl fa fn tf ex h.get? = He.valX fn [] w) : He.SaysX fa fn [] tf ex w h (He.frT h.get? pl) := by
  unfold obsL He.valX at e
  obtain ⟨e1, e2⟩ := Prod.mk.inj e
  rw [Bool.and_eq_true] at e2
  have tab : ∀ p ∈ tf, PySem.W.codeHdIn (He.frT h.get? pl) (He.cT (He.frT h.get? pl) p).1 (He.cT (He.frT h.get? pl) p).2 = true ∧ ∃ o, h.get? (He.cT (He.frT h.get? pl) p).2 = some o ∧ He.emptyTab o = true := fun p hp => by
    have q := List.all_eq_true.mp e2.2 p hp
    rw [Bool.and_eq_true] at q
    refine ⟨q.1, ?_⟩
    have q2 := q.2
    split at q2
    · rename_i o eo
      exact ⟨o, eo, q2⟩
    · cases q2
  refine ⟨e1, e2.1, fun p hp => (tab p hp).1, fun p hp => ?_, fun p hp => ?_⟩
  · obtain ⟨o, h1, h2⟩ := (tab p hp).2
    exact He.frT_none h1 h2
  · obtain ⟨o, h1, h2⟩ := (tab p hp).2
    exact h1.trans (congrArg some (He.emptyTab_eq h2))
def hookL (pl : List Addr) (fa : List He.Fa) (fn : List He.DefD) (tf : List He.Defn) (ex : PySem.W.Frag → Bool) : PySem.W.Hook where
  α := He.AlX
  obs s := obsL pl fa fn tf ex s.heap.get?
  val w := He.valX fn [] w
  says w h := ∃ K : PySem.W.Frag, K.In h ∧ He.SaysX fa fn [] tf ex w h K
  of _ _ e := ⟨_, He.frT_in, saysL e⟩
  keeps _ _ _ := fun ⟨K, i, c⟩ k => ⟨K, i.keeps k, c.t, c.more, c.hd, c.out, fun p hp => k _ _ (c.empty p hp)⟩
/-! ### the head's run, in two parts -/
section
open PySem.W HandSHeadRun
variable {r : OpenRow} {q : Program} {H : Hook} {ob : SharedT → H.α} {M : Nat} {loose : List PySem.Str} {w : World}
theorem run2I (a : (wholeF (fun p => stepQ (denQ tabQ) p w) fenceQ M r.prog).map (fun x => (looksF r.prog x.1.heap x.2.abs, seenQ q loose (importedModules r.prog.main.body) (fun s => xlAt q [] s && recOk r.toRowW.records s) x.2.abs)) = some (true, openGood q loose))
    (b : (wholeF (fun p => stepQ (denQ tabQ) p w) fenceQ M r.prog).map (fun x => ob x.2) = some (H.val w)) : RunEqI r q H ob M loose w := by
  unfold RunEqI
  obtain ⟨x, h1, h2⟩ := Option.map_eq_some_iff.mp a
  rw [h1] at b ⊢
  obtain ⟨k1, k2⟩ := Prod.mk.inj h2
  have k3 : ob x.2 = H.val w := Option.some.inj b
  exact congrArg some (Prod.ext k1 (Prod.ext k2 k3))
theorem run2 (a : ∀ os : OsState, (endF (stepQ (denQ tabQ) r.prog w) M r.prog w os).map (fun s => (looksF r.prog (boot_heap w.params) s.abs, seenQ q loose (importedModules r.prog.main.body) (fun s => xlAt q [] s && recOk r.toRowW.records s) s.abs)) = some (true, openGood q loose))
    (b : ∀ os : OsState, (endF (stepQ (denQ tabQ) r.prog w) M r.prog w os).map ob = some (H.val w)) : RunEq r q H ob M loose w := by
  intro os
  obtain ⟨x, h1, h2⟩ := Option.map_eq_some_iff.mp (a os)
  have b1 := b os
  rw [h1] at b1 ⊢
  obtain ⟨k1, k2⟩ := Prod.mk.inj h2
  have k3 : ob x = H.val w := Option.some.inj b1
  exact congrArg some (Prod.ext k1 (Prod.ext k2 k3))
end
end Pu
end

section
set_option maxHeartbeats 2000000
namespace Pu
open PySem PySem.Spec PyProof.Rows L2

/-! ### a lambda with parameters that captures nothing, as a value -/
theorem cloFrom_nil {cells : List (Str × Addr)} : ∀ {names : List (Str × NameKind)} {acc : List (Str × Addr)}, (∀ y ∈ names, y.2 ≠ .free) → cloFrom cells names acc = acc
  | [], _, _ => rfl
  | (n, k) :: r, acc, h => by
    have e : (k == NameKind.free) = false := by
      have := h _ List.mem_cons_self
      cases k <;> first | rfl | exact absurd rfl this
    unfold cloFrom
    rw [e]
    exact cloFrom_nil fun y hy => h y (List.mem_cons_of_mem _ hy)
section
variable {X : Cx} {pins : List (Addr × Obj)} {σ : St} {H : Hp} {s : Shared}
theorem inv_lam {l : LamD} {cl : Addr} {pm ct : Value} {t' : Nat} (I : Inv X pins σ H s) : Inv X pins σ (upd H s.heap.objs.size (FunO s.heap.objs.size l cl)) { s with heap := s.heap.push (PySem.W.kla_obj "<lambda>" l.nm l.ps l.body l.sc [] pm cl ct), toks := t' } := by
  refine I.laid (a := s.heap.objs.size) (fun b u e => Heap.get?_push_of_some _ e) (Nat.le_refl _) ?_
  have e := Heap.get?_push_size (h := s.heap) (o := PySem.W.kla_obj "<lambda>" l.nm l.ps l.body l.sc [] pm cl ct)
  have e := e rfl
  exact ⟨⟨pm, ct, e⟩, ⟨_, e⟩, fun h1 h2 ⟨p, t, z⟩ st => ⟨p, t, st _ z⟩⟩
theorem lam_newV {T : List (Addr × Str)} {c P : Addr} {l : LamD} {pos : Pos} {E Q : Value → Shared → Prop} (I : Inv X pins σ H s) (nmE : l.nm = X.env.qual ++ "<lambda>") (TB : LamX.TabB X.base X.mg c P) (hcode : X.env.code = .ref c) (hm : (P, l.nm) ∈ T) (hu : ∀ p ∈ T, p.1 = P → p.2 = l.nm) (hT : LamX.Tabs T H)
    (hdef : defaultsOf l.ps X.env = ([], [])) (hfree : ∀ y ∈ l.sc.names, y.2 ≠ .free)
    (h : ∀ (f cl : Addr) (H1 : Hp) (z : Shared), Inv X pins σ (upd H1 f (FunO f l cl)) z → Made T l.nm P H H1 f cl → Q (.ref f) z) : wpAny (model X.prog X.w) X.A (eval (.Lambda l.ps l.body l.sc pos) X.env) Q E s := by
  obtain ⟨tb, hP, ht, ha⟩ := hT _ hm
  have oP : s.heap.get? P = some { cls := .none, data := .fields tb } := I.hok P _ hP
  have hcl : cloFrom X.env.cells l.sc.names [] = [] := cloFrom_nil hfree
  have hco : closureFor l.sc X.env = pure [] := by
    rw [closure_ok fun y hy e => absurd e (hfree y hy), hcl]
  refine PySem.W.kla_eval hdef ?_
  rw [← nmE]
  cases hc : codeAmong pos tb.toList with
  | some cv =>
    obtain ⟨cl, rfl, hcO⟩ := ha pos cv hc
    refine PySem.W.kla_makeFunctionHit (mg := X.mg) hco I.ok.glob (I.mod.glob.keeps I.bk) hcode (TB.code.keeps I.bk) oP ht hc (TB.bm.keeps I.bk) fun ct h' tk hx sz => ?_
    have J : Inv X pins σ H { s with heap := h', toks := tk } := I.kept hx
    exact h _ cl H _ (inv_lam (l := l) (cl := cl) (t' := tk) J) ⟨fun _ _ e _ => e, ⟨tb, hP⟩, fun _ e => e, hT, I.hok.fresh sz, hcO⟩
  | none =>
    refine PySem.W.kla_makeFunction (mg := X.mg) hco I.ok.glob (I.mod.glob.keeps I.bk) hcode (TB.code.keeps I.bk) oP ht hc TB.gP (TB.bm.keeps I.bk) fun cl ct h' tk hx hge hlt hrec htb => ?_
    obtain ⟨cl2, oc, us, t, e1, e2, e3, e4⟩ := hrec
    cases e1
    have nC : H cl = none := I.hok.fresh hge
    have nPC : P ≠ cl := ne_of_none hP nC
    have sz : s.heap.objs.size ≤ h'.objs.size := Nat.le_trans hge (Nat.le_of_lt hlt)
    let H1 : Hp := upd (upd H P (.tbl (tb ++ #[rawInt pos.line, rawInt pos.col, .ref cl]))) cl (LamX.CodeO cl l.nm)
    have k1 : ∀ b o, H b = some o → b ≠ P → H1 b = some o := fun b o e b2 => by
      have b1 : b ≠ cl := ne_of_none e nC
      show upd (upd H P _) cl _ b = _
      rw [upd_ne b1, upd_ne b2]
      exact e
    have k2 : ∀ b, H1 b = none → H b = none := fun b e => by
      have e : upd (upd H P (.tbl (tb ++ #[rawInt pos.line, rawInt pos.col, .ref cl]))) cl (LamX.CodeO cl l.nm) b = none := e
      by_cases b1 : b = cl
      · rw [b1]
        exact nC
      · rw [upd_ne b1] at e
        by_cases b2 : b = P
        · rw [b2, upd_same] at e
          cases e
        · rw [upd_ne b2] at e
          exact e
    have eL : (tb ++ #[rawInt pos.line, rawInt pos.col, .ref cl]).toList = tb.toList ++ [rawInt pos.line, rawInt pos.col, .ref cl] := by simp
    have cl1 : H1 cl = some (LamX.CodeO cl l.nm) := upd_same
    have tabs : LamX.Tabs T H1 := fun p hp => by
      by_cases hb : p.1 = P
      · rw [hu p hp hb, hb]
        refine ⟨tb ++ #[rawInt pos.line, rawInt pos.col, .ref cl], (upd_ne nPC).trans upd_same, by rw [eL]; exact PySem.TriplesOk_snoc _ _ _ _ ht, fun p' cv hcv => ?_⟩
        rw [eL] at hcv
        rcases LamX.among_app _ ht hcv with q | q
        · obtain ⟨c0, q1, q2⟩ := ha p' cv q
          exact ⟨c0, q1, k1 _ _ q2 fun z => by rw [z, hP] at q2; exact LamX.codeO_ne tb (Option.some.inj q2).symm⟩
        · exact ⟨cl, q, cl1⟩
      · obtain ⟨tp, a1, a2, a3⟩ := hT p hp
        refine ⟨tp, ((upd_ne (ne_of_none a1 nC)).trans (upd_ne hb)).trans a1, a2, fun p' cv hcv => ?_⟩
        obtain ⟨c0, q1, q2⟩ := a3 p' cv hcv
        exact ⟨c0, q1, k1 _ _ q2 fun z => by rw [z, hP] at q2; exact LamX.codeO_ne tb (Option.some.inj q2).symm⟩
    have J := LamX.inv_table (q := l.nm) (t' := tk) (more := #[rawInt pos.line, rawInt pos.col, .ref cl]) (h' := h') I hP (fun b o nb e => hx b o nb e) htb hge ⟨oc, us, t, e2, e3, e4⟩
    refine h _ cl H1 _ (inv_lam (l := l) (cl := cl) (t' := tk) J) ⟨k1, ⟨tb, hP⟩, k2, tabs, ?_, cl1⟩
    have n1 : h'.objs.size ≠ cl := Nat.ne_of_gt hlt
    have n2 : h'.objs.size ≠ P := Nat.ne_of_gt (Nat.lt_of_lt_of_le (Heap.lt_size oP) sz)
    show upd (upd H P _) cl _ _ = none
    rw [upd_ne n1, upd_ne n2]
    exact I.hok.fresh sz
end
def mLamV (x : Str) : EM := fun _ p => .ok (.lam x) p
section
variable {X : Cx} {C : Ctx} {W : WX} {gd : Bool} {k : Nat}
theorem pm_lamV {x : Str} {l : LamD} {c P : Addr} {pos : Pos} (w : Wk X C W gd k) (hl : C.lt.lookup x = some l) (nmE : l.nm = X.env.qual ++ "<lambda>") (TB : LamX.TabB X.base X.mg c P) (hcode : X.env.code = .ref c) (hmT : (P, l.nm) ∈ C.T) (hu : ∀ p ∈ C.T, p.1 = P → p.2 = l.nm)
    (hdef : defaultsOf l.ps X.env = ([], [])) (hfree : ∀ y ∈ l.sc.names, y.2 ≠ .free) : PE X (.Lambda l.ps l.body l.sc pos) (rE C W (mLamV x)) := by
  refine ⟨fun pins s σ H Q I ⟨G, env, p0, L, o⟩ => ?_⟩
  refine lam_newV I nmE TB hcode hmT hu L.tab.tabs hdef hfree fun f cl H1 z J M => ?_
  obtain ⟨tp, hP⟩ := M.tbl
  have nP : ∀ b u, H b = some u → (∀ ps, u ≠ .tbl ps) → b ≠ P := fun b u e n z => by
    rw [z, hP] at e
    cases e
    exact n tp rfl
  have fH : H f = none := M.fre _ M.fn
  have nfc : cl ≠ f := ne_of_none M.co M.fn
  have gP : ∀ b o, G b = some o → b ≠ P := fun b o e z => by
    have q := L.nt _ hmT
    rw [← z, e] at q
    cases q
  have k2 : ∀ b o, H1 b = some o → upd H1 f (FunO f l cl) b = some o := fun b o e => by
    rw [upd_ne (ne_of_none e M.fn)]
    exact e
  have gcl : ∀ o, G cl = some o → o = LamX.CodeO cl l.nm := fun o e => by
    have q := M.kee _ _ (L.sub _ _ e) (gP _ _ e)
    rw [M.co] at q
    exact (Option.some.inj q).symm
  have gf : ∀ b o, G b = some o → b ≠ f := fun b o e => ne_of_none (L.sub _ _ e) fH
  have gro : Sub G (upd (upd G cl (LamX.CodeO cl l.nm)) f (FunO f l cl)) := fun b o e => by
    rw [upd_ne (gf b o e)]
    by_cases hb : b = cl
    · rw [hb, upd_same, gcl o (hb ▸ e)]
    · rw [upd_ne hb]
      exact e
  have tab2 : Tb C (upd H1 f (FunO f l cl)) := ⟨M.tab.ext k2, L.tab.sm.elim fun o h => h.elim fun u q => ⟨o, u, k2 _ _ (M.kee _ _ q (nP _ _ q fun _ z => by cases z))⟩, fun f' c' q' Gc e => by
    have q := L.tab.co f' c' q' Gc e
    exact k2 _ _ (M.kee _ _ q (nP _ _ q fun _ z => by unfold LamX.CodeO at z; cases z))⟩
  have x : Ext C G H (upd (upd G cl (LamX.CodeO cl l.nm)) f (FunO f l cl)) (upd H1 f (FunO f l cl)) := by
    refine ⟨fun b o e => ?_, gro, fun b o e => ?_, fun b o e _ n2 => k2 _ _ (M.kee _ _ e (nP _ _ e n2)), fun b e => ?_, tab2⟩
    · by_cases hf : b = f
      · rw [hf, upd_same] at e ⊢
        exact e
      · rw [upd_ne hf] at e ⊢
        by_cases hb : b = cl
        · rw [hb, upd_same] at e
          rw [hb, M.co]
          exact e
        · rw [upd_ne hb] at e
          exact M.kee _ _ (L.sub _ _ e) (gP _ _ e)
    · by_cases hf : b = f
      · exact .inr (.inl (hf ▸ fH))
      · rw [upd_ne hf] at e
        by_cases hb : b = cl
        · subst hb
          rw [upd_same] at e
          exact .inr (.inr ⟨_, (Option.some.inj e).symm⟩)
        · rw [upd_ne hb] at e
          exact .inl e
    · by_cases hf : b = f
      · rw [hf, upd_same] at e
        cases e
      · rw [upd_ne hf] at e
        exact M.fre _ e
  have y : PenAt C (upd (upd G cl (LamX.CodeO cl l.nm)) f (FunO f l cl)) (upd H1 f (FunO f l cl)) p0 := fun b e => by
    obtain ⟨q1, q2, q3⟩ := L.pen b e
    have q4 := M.kee _ _ q2 (nP _ _ q2 fun _ z => by cases z)
    have nf : b ≠ f := ne_of_none q2 fH
    have nc : b ≠ cl := fun z => by
      rw [z, M.co] at q4
      cases q4
    refine ⟨?_, k2 _ _ q4, gro _ _ q3⟩
    rw [upd_ne nf, upd_ne nc]
    exact q1
  refine ⟨.ref f, _, J, rfl, o (.ref f) _ _ x y (.lam hl upd_same ?_)⟩
  rw [upd_ne nfc, upd_same]
end
/-! ### its call -/
structure FnL (C : Ctx) (P : Program) (w : World) (base : Heap) (gd : Bool) (x : Str) (k n : Nat) (m : FM) : Prop where
  ex : ∃ l, C.lt.lookup x = some l ∧ ∀ (f cl : Addr) (A : Around) (outer : List PySem.Env) (s : Shared) (H : Hp) (us : List Value) (vs : List V) (Q : VK) (E : XK), Room k A → (gd = true → A.guards = some []) → Env0 P w C.K C.mg base A outer s H → H f = some (FunO f l cl) → H cl = some (LamX.CodeO cl l.nm) → Vals vs us → spM C m n vs H Q E →
    codeAny (model P w) A (.call (.ref f) ⟨us, []⟩) (CR (L2.CX P w) outer P w H s Q E) s
def mDefE (n : Nat) (m : EM) : FM := fun ds p => m (env0 n ds) p
theorem fnl_of {C : Ctx} {P : Program} {w : World} {base : Heap} {gd : Bool} {x : Str} {l : LamD} {k : Nat} {N ps : List Str} {mb : EM} (hl : C.lt.lookup x = some l) (S : FnScope N ps l.sc) (hx : C.ex = none)
    (hbind : ∀ (pm cd ct : Value) (us : List Value), us.length = ps.length → bindArgs (PySem.W.kla_fn "<lambda>" l.nm l.ps l.body l.sc [] pm cd ct) ⟨us, []⟩ = pure (ps.zip us))
    (hb : ∀ (f : Addr) (cd : Value) (A : Around) (outer : List PySem.Env) (s : Shared) (H : Hp) (E : XK), Wk (cxOf (L2.CX P w) P w C.K C.mg base N l.nm l.sc f cd A outer s H E) C (fun cls d _ H => E cls d H) gd k → PE (cxOf (L2.CX P w) P w C.K C.mg base N l.nm l.sc f cd A outer s H E) l.body (rE C (fun cls d _ H => E cls d H) mb)) :
    FnL C P w base gd x (k + 1) ps.length (mDefE N.length mb) := by
  refine ⟨l, hl, fun f cl A outer s H us vs Q E hr hg e0 hf hc r hsp => ?_⟩
  obtain ⟨G, ds, p, hlen, hs, ht, hn, hy, hr', ho⟩ := hsp
  obtain ⟨⟨pm, ct, of⟩, _, _⟩ := e0.hok f _ hf
  obtain ⟨⟨oc, fs, t, k1, k2, k3⟩, _, _⟩ := e0.hok cl _ hc
  have lim : s.heap.NoLimit := e0.mod.nolimit.keeps fun b o e => (e0.bs b o e).1
  have hkind : ∀ y ∈ ps.zip us, l.sc.names.lookup y.1 = some .local ∨ (l.sc.names.lookup y.1 = some .cell ∧ ((cellsFrom (s.heap.objs.size + 1) l.sc.names []).lookup y.1).isSome = true) := fun ⟨n, v⟩ hy => by
    rcases S.par n (List.of_mem_zip hy).1 with q | q
    · exact .inl q
    · exact .inr ⟨q, PySem.W.cellsFrom_some _ _ _ (.inl q)⟩
  refine PySem.W.kla_callFunE hr.depth of rfl S.co S.gen rfl ⟨cl, oc, fs, t, rfl, k1, k2, k3⟩ ?_
  rw [hbind _ _ _ _ (by rw [← r.length, hlen])]
  refine wpAny_pure (wpAny_newFunctionEnv_cells S.kind hkind fun env he s1 z => ?_)
  subst he
  refine ⟨lim.keeps z.toInCall.keep, PySem.W.kla_codeExpr ?_⟩
  have I : Inv (cxOf (L2.CX P w) P w C.K C.mg base N l.nm l.sc f (.ref cl) A outer s H E) [] (L2.start N vs) H s1 := inv_start S hr.hd e0 hlen r z
  refine wpAny_mono ((hb f (.ref cl) A outer s H E ⟨rfl, rfl, hr.deeper _, hg, takes_of rfl rfl rfl rfl, hx⟩).run [] s1 (L2.start N vs) H Q I ⟨G, env0 N.length ds, p, start_ok hs ht hn hy hr', ?_⟩) (fun v z q => ?_) fun _ _ q => q
  · exact ho.imp (fun d q z => z) fun er q z => z
  · obtain ⟨w', H', J', rv, q⟩ := q
    exact ⟨w', H', J'.os, J'.bare, J'.base, J'.hok, rv, q⟩
def mCallW (i : Nat) (fs ls : List (Str × FM)) (a : AM) : EM := fun env p => match env[i]? with
  | some (.val (.fn x)) => match fs.lookup x with
    | some m => mFn m a env p
    | none => .bad
  | some (.val (.lam x)) => match ls.lookup x with
    | some m => mFn m a env p
    | none => .bad
  | _ => .bad
inductive FnLs (C : Ctx) (P : Program) (w : World) (base : Heap) (gd : Bool) (k n : Nat) : List (Str × FM) → Prop where
  | nil : FnLs C P w base gd k n []
  | cons {x : Str} {j : Nat} {m : FM} {fs : List (Str × FM)} (h : FnL C P w base gd x j n m) (hj : j ≤ k) (t : FnLs C P w base gd k n fs) : FnLs C P w base gd k n ((x, m) :: fs)
theorem FnLs.look {C : Ctx} {P : Program} {w : World} {base : Heap} {gd : Bool} {k n : Nat} {x : Str} {m : FM} : ∀ {fs : List (Str × FM)}, FnLs C P w base gd k n fs → fs.lookup x = some m → ∃ j, j ≤ k ∧ FnL C P w base gd x j n m
  | _, .nil, e => by cases e
  | _, .cons h hj t, e => by
    rw [look_put] at e
    split at e
    · rename_i c
      cases e
      subst c
      exact ⟨_, hj, h⟩
    · exact FnLs.look t e
theorem fnAt_lam {X : Cx} {pins : List (Addr × Obj)} {σ : St} {H : Hp} {s : Shared} {f cl : Addr} {l : LamD} (I : Inv X pins σ H s) (e : H f = some (FunO f l cl)) : PySem.W.FnAt f s.heap := by
  obtain ⟨⟨pm, ct, of⟩, _, _⟩ := I.hok f _ e
  exact ⟨_, _, _, _, of⟩
section
variable {X : Cx} {C : Ctx} {W : WX} {e : Expr} {es : List Expr} {a : AM} {pos p : Pos} {x : Str} {gd gd' : Bool} {k j n : Nat} {m : FM}
theorem pm_callW (i : Nat) {fs ls : List (Str × FM)} (F : Fns C X.prog X.w X.base gd k n fs) (FL : FnLs C X.prog X.w X.base gd k n ls) (w : Wk X C W gd' j) (hk : k ≤ j) (hgd : gd = true → gd' = true) (ha : PA X (e :: es) (rA C W a)) (hl : ALen a n) (hN : X.N[i]? = some x := by rfl) (hv : Vis X.env.scope x := by first | exact Or.inl rfl | exact Or.inr (Or.inl rfl) | exact Or.inr (Or.inr rfl))
    (hdb : (x == ("__debug__" : Str)) = false := by decide) (hcd : (x == ("__classdict__" : Str)) = false := by decide)
    (he : starEach (e :: es) X.env = (false, eval e X.env) :: starEach es X.env := by rfl) (hpl : (backTo pos (starEach es X.env)).any (·.1) = false := by rfl) : PE X (.Call (.Name x p) (e :: es) [] pos) (rE C W (mCallW i fs ls a)) := by
  refine ⟨fun pins s σ H Q I ⟨G, env, p0, L, o⟩ => ?_⟩
  cases hy : env[i]? with
  | none =>
    unfold mCallW at o
    rw [hy] at o
    exact o.elim
  | some sl =>
    by_cases hfn : ∃ y, sl = .val (.lam y)
    · obtain ⟨y, rfl⟩ := hfn
      unfold mCallW at o
      rw [hy] at o
      have o : OutP (match ls.lookup y with | some m => mFn m a env p0 | none => .bad) _ _ := o
      cases hm : ls.lookup y with
      | none =>
        rw [hm] at o
        exact o.elim
      | some m =>
        rw [hm] at o
        obtain ⟨j1, hj1, FL⟩ := FL.look hm
        obtain ⟨l, hlt, FL⟩ := FL.ex
        obtain ⟨v, hs, rep⟩ := L.val hy
        cases rep with
        | @lam f c' _ l' h1 g1 g2 =>
          rw [hlt] at h1
          cases h1
          have hf : H f = some (FunO f l c') := L.sub _ _ g1
          have hc : H c' = some (LamX.CodeO c' l.nm) := L.sub _ _ g2
          rw [w.K, w.mg] at FL
          refine wpAny_Call_Name_kw (thn ((pe_var (pos := p) hN hv hdb hcd).run pins s σ H (fun v H1 => v = .ref f ∧ H1 = H) I ⟨.ref f, hs, rfl, rfl⟩) fun u s1 ⟨v, H1, I1, r1, q1, q2⟩ => ?_)
          subst q1 q2
          cases r1
          have o1 : OutP (mFn m a env p0) _ _ := o
          have o2 := OutP.bind o1
          cases ea : a env p0 with
          | bad =>
            rw [ea] at o2
            exact o2.elim
          | err er q =>
            have z : rA C W a σ H1 (fun _ _ => False) := ⟨G, env, p0, L, by rw [ea] at o2 ⊢; exact o2⟩
            exact PySem.W.callWith_F (first := []) (fnAt_lam I1 hf) (thn (ha.run pos pins s1 σ _ _ I1 z) fun us s1 ⟨vs, H1, I1, r, q⟩ => q.elim) he hpl
          | ok ds q =>
            have lds := hl _ _ _ _ ea
            rw [ea] at o2
            have z : rA C W a σ H1 (fun vs H2 => H2 f = some (FunO f l c') ∧ H2 c' = some (LamX.CodeO c' l.nm) ∧ spM C m n vs H2 Q (fun cls d H' => W cls d σ H')) := ⟨G, env, p0, L, by
              rw [ea]
              intro vs G1 H2 x1 y1 r1
              refine ⟨x1.sub _ _ (x1.gro _ _ g1), x1.sub _ _ (x1.gro _ _ g2), G1, ds, q, by rw [r1.length]; exact lds, x1.sub, x1.tab, x1.nt L.tab L.nt, y1, r1, OutP.imp o2 (fun d q2 z2 v G2 H2 x2 y2 r2 => z2 v G2 H2 (x1.trans x2) y2 r2) fun er q2 z2 cls dd G2 H2 x2 y2 r2 => z2 cls dd G2 H2 (x1.trans x2) y2 r2⟩⟩
            refine PySem.W.callWith_F (first := []) (fnAt_lam I1 hf) (thn (ha.run pos pins s1 σ _ _ I1 z) fun us s2 ⟨vs, H2, I2, r, h1, h2, q⟩ => ⟨fnAt_lam I2 h1, ?_⟩) he hpl
            show wpAny _ _ (call (.ref f) us) _ _ _
            refine wpAny_call (codeAny_mono (FL f c' X.A X.stack s2 H2 us vs Q _ (w.room.mono (Nat.le_trans hj1 hk)) (fun c => w.gd (hgd c)) I2.env0 h1 h2 r q) fun res s' done => ?_)
            cases res with
            | error er => exact w.tk er s' (XE.of_call I2 (fun cls d H2 h => h) done)
            | ok fl => cases fl with
              | ret u => exact I2.after done
              | next => exact done.elim
              | brk => exact done.elim
              | cont => exact done.elim
    · have o' : OutP (mCallV i fs a env p0) (fun d q => ∀ v G' H', Ext C G H G' H' → PenAt C G' H' q → Rep C G' v d → Q v H') (ErrP C W G H σ) := by
        unfold mCallW at o
        unfold mCallV
        rw [hy] at o ⊢
        cases sl with
        | val d =>
          cases d with
          | fn y => exact o
          | lam y => exact absurd ⟨y, rfl⟩ hfn
          | _ => exact o
        | _ => exact o
      exact (pm_callV (pos := pos) (p := p) i F w hk hgd ha hl hN hv hdb hcd he hpl).run pins s σ H Q I ⟨G, env, p0, L, o'⟩
end
end Pu
end

section
set_option maxHeartbeats 2000000
namespace Pu
open PySem PySem.Spec PyProof.Rows L2
/-! ### the way to a lambda in a def's words -/
def s0x : Stmt := .Pass ⟨0, 0, 0, 0⟩
def e0x : Expr := .Name "" ⟨0, 0, 0, 0⟩
def sAt (l : List Stmt) (i : Nat) : Stmt := l.getD i s0x
def sBody : Stmt → List Stmt
  | .For _ _ b _ _ => b
  | .If _ b _ _ => b
  | .While _ b _ _ => b
  | _ => []
def sElse : Stmt → List Stmt
  | .If _ _ b _ => b
  | _ => []
def sIter : Stmt → Expr
  | .For _ it _ _ _ => it
  | _ => e0x
def sExp : Stmt → Expr
  | .Expr v _ => v
  | .Assign _ v _ => v
  | .Return (some v) _ => v
  | _ => e0x
def eElt (e : Expr) (i : Nat) : Expr := match e with
  | .Tuple es _ _ => es.getD i e0x
  | .List es _ => es.getD i e0x
  | .Call _ es _ _ => es.getD i e0x
  | _ => e0x
def eLam (nm : Str) : Expr → LamD
  | .Lambda ps b sc _ => ⟨nm, ps, b, sc⟩
  | e => ⟨nm, ⟨[], [], none, [], [], none, []⟩, e, ⟨.function, [], false, false, []⟩⟩
end Pu
end

section
set_option maxHeartbeats 4000000
namespace Pu
open PySem PySem.Spec PyProof.Rows L2

/-! ### a table of own rows, built, counted up and frozen: found = [[0] * e for k in range(f)]; for a, b in it: found[x][y] += c .. -/
abbrev Cell := Bool × Bool × Int
def tabC (a b : Int) (c : Cell) (rows : List (List Int)) : Option (List (List Int)) :=
  if 0 ≤ (if c.1 = true then a else b) ∧ 0 ≤ (if c.2.1 = true then a else b) then match rows[(if c.1 = true then a else b).toNat]? with
    | some ns => match ns[(if c.2.1 = true then a else b).toNat]? with
      | some v => some (rows.set (if c.1 = true then a else b).toNat (ns.set (if c.2.1 = true then a else b).toNat (v + c.2.2)))
      | none => none
    | none => none
  else none
def tabCs (a b : Int) : List Cell → List (List Int) → Option (List (List Int))
  | [], rows => some rows
  | c :: cs, rows => match tabC a b c rows with
    | some rows' => tabCs a b cs rows'
    | none => none
def tabL (cs : List Cell) : List D → List (List Int) → Option (List (List Int))
  | [], rows => some rows
  | d :: ds, rows => match d with
    | .tup [.int a, .int b] => match tabCs a b cs rows with
      | some rows' => tabL cs ds rows'
      | none => none
    | _ => none
def rowI (ns : List Int) : D := .lst (ns.map .int)
def tabD (rows : List (List Int)) : D := .lst (rows.map rowI)
def noOwnE (env : Env) : Bool := env.all fun s => match s with
  | .own _ => false
  | _ => true
theorem noOwn_at {env : Env} (h : noOwnE env = true) {j : Nat} {es : List D} : env[j]? ≠ some (.own es) := fun e => by
  have := List.all_eq_true.mp h _ (List.mem_of_getElem? e)
  cases this
theorem noOwn_set {env : Env} (h : noOwnE env = true) {j : Nat} {s : Slot} (hs : ∀ es, s ≠ .own es) : noOwnE (env.set j s) = true := List.all_eq_true.mpr fun x hx => by
  rcases List.mem_or_eq_of_mem_set hx with hx | rfl
  · exact List.all_eq_true.mp h x hx
  · cases x with
    | own es => exact absurd rfl (hs es)
    | un => rfl
    | val d => rfl
/-! #### what stands in the heap -/
structure TabS (H0 G H : Hp) (l : Addr) (rs : List Addr) (rows : List (List Int)) : Prop where
  nd : ∀ (j k : Nat) (r : Addr), rs[j]? = some r → rs[k]? = some r → j = k
  len : rs.length = rows.length
  row : ∀ (k : Nat) (r : Addr) (ns : List Int), rs[k]? = some r → rows[k]? = some ns → H r = some (.lst (ns.map V.int)) ∧ G r = none ∧ H0 r = none
  h : H l = some (.lst (rs.map V.ref))
  g : G l = none
  h0 : H0 l = none
section
variable {C : Ctx} {G0 H0 G H G' H' : Hp} {σ : St} {env : Env} {p q : Pen} {l : Addr} {rs : List Addr} {rows : List (List Int)}
theorem Ext.keepL (x : Ext C G H G' H') (y : PenAt C G H q) {a : Addr} {vs : List V} (h : H a = some (.lst vs)) (n : G a = none) : H' a = some (.lst vs) ∧ G' a = none := by
  have k := x.stayL y h
  refine ⟨k, ?_⟩
  cases z : G' a with
  | none => rfl
  | some o =>
    rcases x.new a o z with u | u | ⟨c, u⟩
    · rw [n] at u
      cases u
    · rw [h] at u
      cases u
    · rw [x.sub _ _ z, u] at k
      cases k
theorem TabS.step (T : TabS H0 G H l rs rows) (x : Ext C G H G' H') (y : PenAt C G H q) : TabS H0 G' H' l rs rows := by
  obtain ⟨h1, h2⟩ := x.keepL y T.h T.g
  refine ⟨T.nd, T.len, fun k r ns e1 e2 => ?_, h1, h2, T.h0⟩
  obtain ⟨k1, k2, k3⟩ := T.row k r ns e1 e2
  obtain ⟨k4, k5⟩ := x.keepL y k1 k2
  exact ⟨k4, k5, k3⟩
theorem TabS.ne (T : TabS H0 G H l rs rows) {k : Nat} {r : Addr} {ns : List Int} (e1 : rs[k]? = some r) (e2 : rows[k]? = some ns) : l ≠ r := fun e => by
  have h1 := T.h
  rw [e, (T.row k r ns e1 e2).1] at h1
  have h2 : ns.map V.int = rs.map V.ref := by
    injection h1 with h1
    injection h1
  cases rs with
  | nil => cases e1
  | cons a rs =>
    cases ns with
    | nil => cases h2
    | cons n ns => cases h2
theorem TabS.upd (T : TabS H0 G H l rs rows) {k : Nat} {r : Addr} {ns ms : List Int} (e1 : rs[k]? = some r) (e2 : rows[k]? = some ns) : TabS H0 G (upd H r (.lst (ms.map V.int))) l rs (rows.set k ms) := by
  have hk := (List.getElem?_eq_some_iff.mp e1)
  refine ⟨T.nd, by rw [List.length_set]; exact T.len, fun j r' ns' f1 f2 => ?_, by rw [upd_ne (T.ne e1 e2)]; exact T.h, T.g, T.h0⟩
  rcases set_at f2 with ⟨z1, z2⟩ | ⟨z1, z2⟩
  · subst z1 z2
    rw [e1] at f1
    cases f1
    exact ⟨upd_same, (T.row _ _ _ e1 e2).2⟩
  · have nr : r' ≠ r := fun e => z1 (T.nd _ _ _ f1 (by rw [e]; exact e1))
    rw [upd_ne nr]
    exact T.row j r' ns' f1 z2
theorem SOk.updR (S : SOk C G0 H0 G H σ env p) (n : noOwnE env = true) {r : Addr} {vs ys : List V} (h : H r = some (.lst vs)) (g : G r = none) (h0 : H0 r = none) : SOk C G0 H0 G (upd H r (.lst ys)) σ env p :=
  ⟨S.l.updF h g fun j es e => absurd e (noOwn_at n), S.x.updF h g h0, S.f⟩
/-- frozen -/
theorem TabS.frz (S : SOk C G0 H0 G H σ env p) (T : TabS H0 G H l rs rows) (n : noOwnE env = true) {i : Nat} (hs : σ[i]? = some (some (.ref l))) : ∃ G1, SOk C G0 H0 G1 H σ (env.set i (.val (tabD rows))) p ∧ Sub G G1 := by
  let G1 : Hp := fun a => if a = l ∨ a ∈ rs then H a else G a
  have inr : ∀ {a : Addr}, a ∈ rs → ∃ ns : List Int, H a = some (.lst (ns.map V.int)) ∧ G a = none ∧ H0 a = none := fun {a} ha => by
    obtain ⟨k, hk, rfl⟩ := List.mem_iff_getElem.mp ha
    have hk2 : k < rows.length := by rw [← T.len]; exact hk
    exact ⟨_, T.row k _ _ (List.getElem?_eq_getElem hk) (List.getElem?_eq_getElem hk2)⟩
  have feet : ∀ {a : Addr}, (a = l ∨ a ∈ rs) → (∃ vs, H a = some (.lst vs)) ∧ G a = none ∧ H0 a = none := fun {a} ha => by
    rcases ha with rfl | ha
    · exact ⟨⟨_, T.h⟩, T.g, T.h0⟩
    · obtain ⟨ns, h1, h2, h3⟩ := inr ha
      exact ⟨⟨_, h1⟩, h2, h3⟩
  have s1 : Sub G G1 := fun a o e => by
    show (if a = l ∨ a ∈ rs then H a else G a) = some o
    rw [if_neg (fun z => by rw [(feet z).2.1] at e; cases e)]
    exact e
  have sb : Sub G1 H := fun a o e => by
    have e : (if a = l ∨ a ∈ rs then H a else G a) = some o := e
    by_cases c : a = l ∨ a ∈ rs
    · rw [if_pos c] at e
      exact e
    · rw [if_neg c] at e
      exact S.l.sub a o e
  have off : ∀ {a : Addr}, ¬ (∃ vs, H a = some (.lst vs)) → G1 a = G a := fun {a} h => if_neg fun z => h (feet z).1
  refine ⟨G1, ⟨⟨sb, S.l.tab, fun a e => ?_, by rw [List.length_set, S.l.len], fun j x s q1 q2 => ?_, fun j k ds es a q1 q2 q3 q4 => ?_, fun p hp => ?_⟩, ⟨sb, S.x.gro.trans s1, fun a o e => ?_, S.x.kee, S.x.fre, S.x.tab⟩, fun j es a q1 q2 => ?_⟩, s1⟩
  · obtain ⟨m, q1, q2⟩ := S.l.pen a e
    exact ⟨by rw [off (fun ⟨vs, z⟩ => by rw [q1] at z; cases z)]; exact m, q1, s1 _ _ q2⟩
  · rcases set_at q2 with ⟨z1, z2⟩ | ⟨z1, z2⟩
    · subst z1 z2
      rw [hs] at q1
      cases q1
      have hr : Reps C G1 (rs.map V.ref) (rows.map rowI) := by
        have go : ∀ (ss : List Addr) (ts : List (List Int)), ss.length = ts.length → (∀ (k : Nat) (r : Addr) (ns : List Int), ss[k]? = some r → ts[k]? = some ns → Rep C G1 (.ref r) (rowI ns)) → Reps C G1 (ss.map V.ref) (ts.map rowI) := fun ss => by
          induction ss with
          | nil => intro ts hl _; cases ts with | nil => exact .nil | cons _ _ => cases hl
          | cons a ss ih =>
            intro ts hl h
            cases ts with
            | nil => cases hl
            | cons t ts => exact .cons (h 0 a t rfl rfl) (ih ts (by simpa using hl) fun k r ns e1 e2 => h (k + 1) r ns e1 e2)
        refine go rs rows T.len fun k r ns e1 e2 => .lst (vs := ns.map V.int) ?_ (Reps.ints ns)
        exact (if_pos (.inr (List.mem_of_getElem? e1))).trans (T.row k r ns e1 e2).1
      exact .val (.lst ((if_pos (.inl rfl)).trans T.h) hr)
    · have s0 := S.l.slot j x s q1 z2
      cases s0 with
      | un => exact .un _
      | val r => exact .val (r.mono s1)
      | own h n' r => exact absurd z2 (noOwn_at n)
  · exact absurd q1 (noOwn_at (noOwn_set n fun es z => by cases z))
  · obtain ⟨ps, t, _⟩ := S.l.tab.tabs p hp
    rw [off (fun ⟨vs, z⟩ => by rw [t] at z; cases z)]
    exact S.l.nt p hp
  · have e' : (if a = l ∨ a ∈ rs then H a else G a) = some o := e
    by_cases c : a = l ∨ a ∈ rs
    · exact .inr (.inl (feet c).2.2)
    · rw [if_neg c] at e'
      exact S.x.new a o e'
  · exact absurd q1 (noOwn_at (noOwn_set n fun es z => by cases z))
end
/-! #### one cell -/
def tCell (i jx jy : Nat) (δ : Int) : TS := fun D σ H => ∃ (l : Addr) (xs : List V) (x y : Int) (r : Addr) (ns : List V) (v : Int), σ[i]? = some (some (.ref l)) ∧ H l = some (.lst xs) ∧ σ[jx]? = some (some (.int x)) ∧ σ[jy]? = some (some (.int y)) ∧ 0 ≤ x ∧ 0 ≤ y ∧
  xs[x.toNat]? = some (.ref r) ∧ H r = some (.lst ns) ∧ ns[y.toNat]? = some (.int v) ∧ D.nx σ (upd H r (.lst (ns.set y.toNat (.int (v + δ)))))
theorem atI_nn {α : Type} {xs : List α} {x : Int} {v : α} (h : 0 ≤ x) (e : xs[x.toNat]? = some v) : L2.atI xs x = some v := by
  obtain ⟨h1, h2⟩ := List.getElem?_eq_some_iff.mp e
  unfold L2.atI
  rw [show ixN xs.length x = some x.toNat by unfold ixN; rw [if_pos h, if_pos (by omega)]]
  exact e
section
variable {X : Cx} {xf xx xy : Str} {i jx jy : Nat} {pf px py p1 p2 p3 pos pf' px' py' p1' p2' p4 : Pos} {k0 k1 : Nat}
theorem ps_cellA {δ : Int} {op : Operator} {f : Int → Int → Int} (hp : PIp X op (ipI f)) (hf : ∀ v, f v 1 = v + δ) (hNi : X.N[i]? = some xf := by rfl) (hNx : X.N[jx]? = some xx := by rfl) (hNy : X.N[jy]? = some xy := by rfl)
    (hvi : Vis X.env.scope xf := by first | exact Or.inl rfl | exact Or.inr (Or.inl rfl) | exact Or.inr (Or.inr rfl)) (hvx : Vis X.env.scope xx := by first | exact Or.inl rfl | exact Or.inr (Or.inl rfl) | exact Or.inr (Or.inr rfl)) (hvy : Vis X.env.scope xy := by first | exact Or.inl rfl | exact Or.inr (Or.inl rfl) | exact Or.inr (Or.inr rfl))
    (hdi : (xf == ("__debug__" : Str)) = false := by decide) (hci : (xf == ("__classdict__" : Str)) = false := by decide) (hdx : (xx == ("__debug__" : Str)) = false := by decide) (hcx : (xx == ("__classdict__" : Str)) = false := by decide) (hdy : (xy == ("__debug__" : Str)) = false := by decide) (hcy : (xy == ("__classdict__" : Str)) = false := by decide)
    (hst : ∀ ov iv new, augStore (.Name xy py) ov iv new = (do holding [new, ov, iv] (setItem ov iv new); release [new, ov, iv] []; pure .next) := by intros; rfl) :
    PS X (.AugAssign (.Subscript (.Subscript (.Name xf pf) (.Name xx px) p1) (.Name xy py) p2) op (.Constant (.int 1) k0 p3) pos) (tCell i jx jy δ) :=
  (ps_augS (pe_ix ix_list (pe_var hNi hvi hdi hci) (pe_var hNx hvx hdx hcx) (fun _ _ => rfl)) (pe_var hNy hvy hdy hcy) get_list pe_int hp set_list hst).of fun D σ H ⟨l, xs, x, y, r, ns, v, e1, e2, e3, e4, e5, e6, e7, e8, e9, q⟩ => by
    refine ⟨_, e1, _, e3, l, xs, x, .ref r, rfl, rfl, SqL.of e2, atI_nn e5 e7, _, e4, r, ns, y, .int v, rfl, rfl, SqL.of e8, atI_nn e6 e9, v, 1, rfl, rfl, r, ns, y, y.toNat, rfl, rfl, e8, ?_, ?_⟩
    · have := (List.getElem?_eq_some_iff.mp e9).1
      unfold ixN
      rw [if_pos e6, if_pos (by omega)]
    · rw [hf]
      exact q
theorem ps_cellS (hNi : X.N[i]? = some xf := by rfl) (hNx : X.N[jx]? = some xx := by rfl) (hNy : X.N[jy]? = some xy := by rfl)
    (hvi : Vis X.env.scope xf := by first | exact Or.inl rfl | exact Or.inr (Or.inl rfl) | exact Or.inr (Or.inr rfl)) (hvx : Vis X.env.scope xx := by first | exact Or.inl rfl | exact Or.inr (Or.inl rfl) | exact Or.inr (Or.inr rfl)) (hvy : Vis X.env.scope xy := by first | exact Or.inl rfl | exact Or.inr (Or.inl rfl) | exact Or.inr (Or.inr rfl))
    (hdi : (xf == ("__debug__" : Str)) = false := by decide) (hci : (xf == ("__classdict__" : Str)) = false := by decide) (hdx : (xx == ("__debug__" : Str)) = false := by decide) (hcx : (xx == ("__classdict__" : Str)) = false := by decide) (hdy : (xy == ("__debug__" : Str)) = false := by decide) (hcy : (xy == ("__classdict__" : Str)) = false := by decide)
    (hg : ∀ v, assign (.Subscript (.Subscript (.Name xf pf) (.Name xx px) p1) (.Name xy py) p2) X.env v = (do
      let ov ← holding [v] (eval (.Subscript (.Name xf pf) (.Name xx px) p1) X.env)
      let iv ← holding [v, ov] (eval (.Name xy py) X.env)
      standAt p2
      holding [v, ov, iv] (setItem ov iv v)
      release [v, ov, iv] []) := by intro _; rfl)
    (hs : swapsWithSole [.Subscript (.Subscript (.Name xf pf) (.Name xx px) p1) (.Name xy py) p2] (.BinOp (.Subscript (.Subscript (.Name xf pf') (.Name xx px') p1') (.Name xy py') p2') .Add (.Constant (.int 1) k0 p3) p4) pos.line X.env = pure false := by rfl)
    (hw : swappedStores [.Subscript (.Subscript (.Name xf pf) (.Name xx px) p1) (.Name xy py) p2] (.BinOp (.Subscript (.Subscript (.Name xf pf') (.Name xx px') p1') (.Name xy py') p2') .Add (.Constant (.int 1) k0 p3) p4) X.env = pure none := by rfl)
    (h1 : (assignEach [.Subscript (.Subscript (.Name xf pf) (.Name xx px) p1) (.Name xy py) p2] X.env).map (·.2) = [assign (.Subscript (.Subscript (.Name xf pf) (.Name xx px) p1) (.Name xy py) p2) X.env] := by rfl) :
    PS X (.Assign [.Subscript (.Subscript (.Name xf pf) (.Name xx px) p1) (.Name xy py) p2] (.BinOp (.Subscript (.Subscript (.Name xf pf') (.Name xx px') p1') (.Name xy py') p2') .Add (.Constant (.int 1) k0 p3) p4) pos) (tCell i jx jy 1) :=
  (ps_asg (pe_add (pe_ix ix_list (pe_ix ix_list (pe_var hNi hvi hdi hci) (pe_var hNx hvx hdx hcx) (fun _ _ => rfl)) (pe_var hNy hvy hdy hcy) (fun _ _ => rfl)) pe_int)
    (pg_sub (pe_ix ix_list (pe_var hNi hvi hdi hci) (pe_var hNx hvx hdx hcx) (fun _ _ => rfl)) (pe_var hNy hvy hdy hcy) set_list hg) hs hw h1).of fun D σ H ⟨l, xs, x, y, r, ns, v, e1, e2, e3, e4, e5, e6, e7, e8, e9, q⟩ => by
    refine ⟨_, e1, _, e3, l, xs, x, .ref r, rfl, rfl, SqL.of e2, atI_nn e5 e7, _, e4, r, ns, y, .int v, rfl, rfl, SqL.of e8, atI_nn e6 e9, v, 1, rfl, rfl, ?_⟩
    refine ⟨_, e1, _, e3, l, xs, x, .ref r, rfl, rfl, SqL.of e2, atI_nn e5 e7, _, e4, r, ns, y, y.toNat, rfl, rfl, e8, ?_, q⟩
    have := (List.getElem?_eq_some_iff.mp e9).1
    unfold ixN
    rw [if_pos e6, if_pos (by omega)]
end
end Pu
end

section
set_option maxHeartbeats 4000000
namespace Pu
open PySem PySem.Spec PyProof.Rows L2
def tCs (i ia ib : Nat) : List Cell → TS
  | [] => tNext
  | c :: cs => tSeq (tCell i (if c.1 = true then ia else ib) (if c.2.1 = true then ia else ib) c.2.2) (tCs i ia ib cs)
section
variable {C : Ctx} {G0 H0 G H G' H' : Hp} {σ : St} {env : Env} {p q : Pen} {l : Addr} {rs : List Addr} {rows rows' : List (List Int)} {i ia ib : Nat} {a b : Int}
theorem cells_run (n : noOwnE env = true) (hl : σ[i]? = some (some (.ref l))) (ha : σ[ia]? = some (some (.int a))) (hb : σ[ib]? = some (some (.int b))) : ∀ (cs : List Cell) (rows : List (List Int)) (H : Hp) (D : Ends), SOk C G0 H0 G H σ env q → TabS H0 G H l rs rows → tabCs a b cs rows = some rows' →
    (∀ H', SOk C G0 H0 G H' σ env q → TabS H0 G H' l rs rows' → D.nx σ H') → tCs i ia ib cs D σ H
  | [], rows, H, D, S, T, e, k => by
    cases e
    exact k H S T
  | c :: cs, rows, H, D, S, T, e, k => by
    have e : (match tabC a b c rows with | some rows' => tabCs a b cs rows' | none => none) = some rows' := e
    cases e1 : tabC a b c rows with
    | none =>
      rw [e1] at e
      cases e
    | some rows1 =>
      rw [e1] at e
      have hx : σ[if c.1 = true then ia else ib]? = some (some (.int (if c.1 = true then a else b))) := by
        split
        · exact ha
        · exact hb
      have hy : σ[if c.2.1 = true then ia else ib]? = some (some (.int (if c.2.1 = true then a else b))) := by
        split
        · exact ha
        · exact hb
      unfold tabC at e1
      generalize (if c.1 = true then a else b) = x at e1 hx
      generalize (if c.2.1 = true then a else b) = y at e1 hy
      split at e1
      · rename_i c0
        split at e1
        · rename_i ns hns
          split at e1
          · rename_i v hv
            cases e1
            obtain ⟨k1, k2⟩ := List.getElem?_eq_some_iff.mp hns
            have k3 : x.toNat < rs.length := by rw [T.len]; exact k1
            have hr : rs[x.toNat]? = some rs[x.toNat] := List.getElem?_eq_getElem k3
            obtain ⟨r1, r2, r3⟩ := T.row _ _ _ hr hns
            refine ⟨l, _, x, y, rs[x.toNat], _, v, hl, T.h, hx, hy, c0.1, c0.2, by rw [List.getElem?_map, hr]; rfl, r1, by rw [List.getElem?_map, hv]; rfl, ?_⟩
            have T2 := T.upd (ms := ns.set y.toNat (v + c.2.2)) hr hns
            have S2 := S.updR n (ys := (ns.set y.toNat (v + c.2.2)).map V.int) r1 r2 r3
            rw [show (ns.map V.int).set y.toNat (.int (v + c.2.2)) = (ns.set y.toNat (v + c.2.2)).map V.int by rw [List.map_set]]
            exact cells_run n hl ha hb cs _ _ D S2 T2 e k
          · cases e1
        · cases e1
      · cases e1
end
/-! #### the mirror -/
def szV (i : Nat) : Env → Option Int := fun env => match env[i]? with
  | some (.val (.int n)) => some n
  | _ => none
def szF (cs : List Str) (f : Str) (i : Nat) : Env → Option Int := fun env => match env[i]? with
  | some (.val (.obj c fs)) => if c ∈ cs then (match fs.lookup f with
    | some (.int n) => some n
    | _ => none) else none
  | _ => none
theorem szV_ok {i : Nat} (env : Env) (n : Int) (h : szV i env = some n) (q : Pen) : mVal i env q = .ok (.int n) q := by
  unfold szV at h
  unfold mVal
  split at h
  · rename_i m e
    cases h
    rw [e]
  · cases h
theorem szF_ok {cs : List Str} {f : Str} {i : Nat} (env : Env) (n : Int) (h : szF cs f i env = some n) (q : Pen) : mFld cs f (mVal i) env q = .ok (.int n) q := by
  unfold szF at h
  split at h
  · rename_i c fs e
    split at h
    · rename_i hc
      split at h
      · rename_i m hm
        cases h
        unfold mFld mVal
        rw [e]
        show (if c ∈ cs then (match fs.lookup f with | some d => Out.ok d q | none => .bad) else .bad) = _
        rw [if_pos hc, hm]
      · cases h
    · cases h
  · cases h
theorem szV_set {i k : Nat} (h : i ≠ k) (env : Env) (s : Slot) : szV i (env.set k s) = szV i env := by
  unfold szV
  rw [List.getElem?_set_ne (fun e => h e.symm)]
theorem szF_set {cs : List Str} {f : Str} {i k : Nat} (h : i ≠ k) (env : Env) (s : Slot) : szF cs f i (env.set k s) = szF cs f i env := by
  unfold szF
  rw [List.getElem?_set_ne (fun e => h e.symm)]
def mTab (i ia ib : Nat) (s1 s2 : Env → Option Int) (it : AM) (cs : List Cell) (r : SM) : SM := fun env p =>
  if noOwnE env = true ∧ i < env.length ∧ ia < env.length ∧ ib < env.length then match s1 env, s2 env with
    | some m, some n => if 0 ≤ n ∧ n ≤ 1000 ∧ 0 ≤ m ∧ m ≤ 1000 then (it (env.set i .un) p).res (env.set i .un) fun ds q => match tabL cs ds (List.replicate n.toNat (List.replicate m.toNat 0)) with
      | some rows => r ((((env.set i .un).set ia .un).set ib .un).set i (.val (tabD rows))) q
      | none => .bad
      else .bad
    | _, _ => .bad
  else .bad
section
variable {X : Cx} {C : Ctx} {W : WX} {it : AM} {g : GM} {s1 s2 : Env → Option Int} {m1 m2 : EM} {i ia ib ik : Nat} {is : List Nat} {cs : List Cell} {r : SM}
theorem LOk.un_same {C : Ctx} {G H : Hp} {σ : St} {env : Env} {p : Pen} (L : LOk C G H σ env p) (i : Nat) : LOk C G H σ (env.set i .un) p := by
  by_cases hi : i < σ.length
  · have h := L.setU i (v := σ[i])
    rwa [List.set_getElem_self hi] at h
  · have hi2 : env.length ≤ i := by have := L.len; omega
    rw [List.set_eq_of_length_le hi2]
    exact L
theorem SOk.un_same {C : Ctx} {G0 H0 G H : Hp} {σ : St} {env : Env} {p : Pen} (S : SOk C G0 H0 G H σ env p) (i : Nat) : SOk C G0 H0 G H σ (env.set i .un) p := ⟨S.l.un_same i, S.x, fun j ds a e1 e2 => by
  rcases set_at e1 with ⟨_, z⟩ | ⟨_, z⟩
  · cases z
  · exact S.f j ds a z e2⟩
theorem rep_val {m : Nat} {env : Env} {q : Pen} {k : Int} (h : m1 env q = .ok (.int k) q) (h0 : 0 ≤ k) (h1 : k ≤ 1000) : mFOp kRep (mFr (mLst (aCons (mC (.int 0)) aNil))) m1 env q = .ok ((List.replicate k.toNat (0 : Int)).map D.int) q := by
  have e : mFr (mLst (aCons (mC (.int 0)) aNil)) env q = .ok (.lst [.int 0]) q := rfl
  unfold mFOp
  rw [e]
  show ((m1 env q).bind fun e p2 => match kRep (.lst [.int 0]) e with | some z => Out.ok z p2 | none => .bad) = _
  rw [h]
  show (match (if -(2 ^ 63) ≤ k ∧ k < 2 ^ 63 ∧ [D.int 0].length * k.toNat ≤ sizeLine then some (List.replicate k.toNat [D.int 0]).flatten else none) with | some z => Out.ok z q | none => .bad) = _
  rw [if_pos ⟨by omega, by omega, by rw [sizeLine_eq]; show 1 * _ ≤ _; omega⟩, List.flatten_replicate_singleton, List.map_replicate]
theorem rd_tab (hk : ∀ env s, s1 (env.set ik s) = s1 env) (h1 : ∀ env n, s1 env = some n → ∀ q, m1 env q = .ok (.int n) q) (h2 : ∀ env n, s2 env = some n → ∀ q, m2 env q = .ok (.int n) q)
    (hi1 : i ≠ ia) (hi2 : i ≠ ib) (hab : ia ≠ ib) {D : Ends} {σ : St} {H : Hp} (h : rS C W (mTab i ia ib s1 s2 it cs r) D σ H) :
    tSeq (tAsg (tLc (rI C W false (mRng1 m2)) (rG C [ik] (gNm ik)) (rT C W0 tmYes) (rF C W0 (mFOp kRep (mFr (mLst (aCons (mC (.int 0)) aNil))) m1)) [ik]) (gName i))
      (tSeq (tFor (rI C W true it) (rG C [ia, ib] (gTp (gsCons (gNm ia) (gsCons (gNm ib) gsNil)))) (tCs i ia ib cs)) (rS C W r)) D σ H := by
  obtain ⟨G0, H0, G, env, p, S, o⟩ := h
  unfold mTab at o
  split at o
  rotate_left
  · exact o.elim
  rename_i c0
  obtain ⟨n0, li, la, lb⟩ := c0
  split at o
  rotate_left
  · exact o.elim
  rename_i m n em en
  split at o
  rotate_left
  · exact o.elim
  rename_i c1
  obtain ⟨n1, n2, k1, k2⟩ := c1
  have er : mRng1 m2 env p = .ok (rgN 0 n.toNat) p := by
    unfold mRng1
    rw [h2 env n en]
    exact if_pos ⟨by omega, by omega⟩
  refine ⟨G, env, p, S.l, ?_⟩
  rw [er]
  intro J G1 H1 x1 y1 t l hl
  obtain ⟨Gw, Y, w, w1, w2⟩ := t
  have L1 := S.l.step x1 y1
  have S1 := S.step x1 y1
  have hgl : G1 l = none := free_of x1.sub hl
  have al0 : Alc G1 H1 G1 (upd H1 l (.lst [])) := Alc.own x1.sub hl
  have nw : noOwnE (wipeE env [ik]) = true := noOwn_set n0 fun _ z => by cases z
  rw [rgN_len] at w
  refine lc_it w (fun j H' => ∃ G' rs, LOk C G' H' (L2.wipe σ [ik]) (wipeE env [ik]) p ∧ Ext C G1 H1 G' H' ∧ TabS H1 G' H' l rs (List.replicate j (List.replicate m.toNat 0)) ∧ j ≤ n.toNat) ?_ ?_ ?_ ?_
  · refine ⟨G1, [], (L1.alc al0).wipe [ik], L1.ext al0, ⟨fun j k r e _ => (by cases e), rfl, fun k r ns e _ => (by cases e), upd_same, hgl, hl⟩, Nat.zero_le _⟩
  · rintro j H' hj ⟨G', rs, L', x', T', _⟩
    exact w1 G' H' x'.gro L'.sub x'.kept
  · rintro j x H' H'' hj ⟨G', rs, L', x', T', _⟩ y
    have hd : (rgN 0 n.toNat)[j]? = some ((rgN 0 n.toNat)[j]'(by rw [rgN_len]; exact hj)) := List.getElem?_eq_getElem _
    generalize (rgN 0 n.toNat)[j]'(by rw [rgN_len]; exact hj) = dx at hd
    obtain ⟨G2, al, rx⟩ := w2 j dx G' H' x H'' hd x'.gro L'.sub y
    have L2' := L'.alc al
    refine ⟨G2, wipeE env [ik], p, dx, (wipeE env [ik]).set ik (.val dx), L2', rx, rfl, fun σ2 Ls _ sm => ⟨wipe_same sm (fun _ h => h), G2, _, p, Ls, fun G3 H3 x3 y3 => ?_⟩⟩
    show if true = true then _ else _
    rw [if_pos rfl]
    have L3 := Ls.step x3 y3
    have ev : m1 ((wipeE env [ik]).set ik (.val dx)) p = .ok (.int m) p := h1 _ _ (by rw [hk, show wipeE env [ik] = env.set ik .un from rfl, hk, em]) p
    refine ⟨G3, _, p, L3, ?_⟩
    rw [rep_val (m := 0) ev k1 k2]
    intro rr vs G4 H4 x4 y4 f1 f2 f3 f4
    have z4 := Reps.of_ints f4
    subst z4
    have T3 : TabS H1 G4 H4 l rs (List.replicate j (List.replicate m.toNat 0)) := ((T'.step (L'.ext al) L'.pen).step x3 L2'.pen).step x4 y3
    have T30 : TabS H1 G3 H3 l rs (List.replicate j (List.replicate m.toNat 0)) := (T'.step (L'.ext al) L'.pen).step x3 L2'.pen
    have x04 : Ext C G1 H1 G4 H4 := ((x'.trans (L'.ext al)).trans x3).trans x4
    have rl : rr ≠ l := fun e => by
      rw [e, T30.h] at f1
      cases f1
    have rn : rr ∉ rs := fun e => by
      obtain ⟨k, hk2, ek⟩ := List.mem_iff_getElem.mp e
      have k3 : k < (List.replicate j (List.replicate m.toNat (0 : Int))).length := by rw [← T30.len]; exact hk2
      have := (T30.row k rr _ (by rw [List.getElem?_eq_getElem hk2, ek]) (List.getElem?_eq_getElem k3)).1
      rw [f1] at this
      cases this
    have lr : rs.length = j := by rw [T3.len, List.length_replicate]
    have r0 : H1 rr = none := ((x'.trans (L'.ext al)).trans x3).fre _ f1
    refine ⟨_, T3.h, by rw [List.length_map, lr, sizeLine_eq]; omega, G4, rs ++ [rr], ?_, ?_, ⟨fun a b r e1 e2 => ?_, by rw [List.length_append, lr, List.length_replicate]; rfl, fun k r ns e1 e2 => ?_, by rw [upd_same, List.map_append]; rfl, T3.g, T3.h0⟩, hj⟩
    · have L4 : LOk C G4 H4 (L2.wipe σ [ik]) (wipeE env [ik]) p := ((L'.alc al).step x3 y3).step x4 y4
      exact L4.updF T3.h T3.g fun j es e => absurd e (noOwn_at nw)
    · exact x04.updF T3.h T3.g hl
    · rcases Nat.lt_or_ge a rs.length with ha | ha
      · rw [List.getElem?_append_left ha] at e1
        rcases Nat.lt_or_ge b rs.length with hb | hb
        · rw [List.getElem?_append_left hb] at e2
          exact T3.nd a b r e1 e2
        · rw [List.getElem?_append_right hb] at e2
          have e3 := List.mem_of_getElem? e2
          rw [List.mem_singleton] at e3
          exact absurd (List.mem_of_getElem? e1) (e3 ▸ rn)
      · rw [List.getElem?_append_right ha] at e1
        have e3 := List.mem_of_getElem? e1
        rw [List.mem_singleton] at e3
        rcases Nat.lt_or_ge b rs.length with hb | hb
        · rw [List.getElem?_append_left hb] at e2
          exact absurd (List.mem_of_getElem? e2) (e3 ▸ rn)
        · rw [List.getElem?_append_right hb] at e2
          have b1 := (List.getElem?_eq_some_iff.mp e1).1
          have b2 := (List.getElem?_eq_some_iff.mp e2).1
          rw [List.length_singleton] at b1 b2
          omega
    · rcases Nat.lt_or_ge k rs.length with hk3 | hk3
      · rw [List.getElem?_append_left hk3] at e1
        have e2' : (List.replicate j (List.replicate m.toNat (0 : Int)))[k]? = some ns := by
          rw [List.getElem?_replicate] at e2 ⊢
          rw [if_pos (by omega)] at e2
          rw [if_pos (by omega)]
          exact e2
        have nl : r ≠ l := fun e => T3.ne e1 e2' e.symm
        rw [upd_ne nl]
        exact T3.row k r ns e1 e2'
      · rw [List.getElem?_append_right hk3] at e1
        have e3 := List.mem_of_getElem? e1
        rw [List.mem_singleton] at e3
        subst e3
        rw [List.getElem?_replicate] at e2
        split at e2
        · cases e2
          rw [upd_ne rl]
          exact ⟨f3, f2, r0⟩
        · cases e2
  · rintro H' ⟨G', rs, L', x', T', _⟩
    show tFor (rI C W true it) (rG C [ia, ib] (gTp (gsCons (gNm ia) (gsCons (gNm ib) gsNil)))) (tCs i ia ib cs) { D with nx := rS C W r D } (σ.set i (some (.ref l))) H'
    have S2 : SOk C G0 H0 G' H' σ env p := S1.step x' L'.pen
    have S3 : SOk C G0 H0 G' H' (σ.set i (some (.ref l))) (env.set i .un) p := S2.setU i
    have T0 : TabS H0 G' H' l rs (List.replicate n.toNat (List.replicate m.toNat 0)) := ⟨T'.nd, T'.len, fun k r ns e1 e2 => by
      obtain ⟨b1, b2, b3⟩ := T'.row k r ns e1 e2
      exact ⟨b1, b2, S1.x.fre _ b3⟩, T'.h, T'.g, S1.x.fre _ T'.h0⟩
    have hsl : (σ.set i (some (.ref l)))[i]? = some (some (.ref l)) := List.getElem?_set_self (by rw [S.l.len]; exact li)
    have gr : Sub G G' := x1.gro.trans x'.gro
    have ne : noOwnE (env.set i .un) = true := noOwn_set n0 fun _ z => by cases z
    have o' := ResP.gro o gr
    refine ⟨G', env.set i .un, p, S3.l, (o'.out S3).imp (fun ds q z J2 G2 H2 x2 y2 t2 => ?_) fun _ _ z => z⟩
    split at z
    rotate_left
    · exact z.elim
    rename_i rows er2
    obtain ⟨Gw2, Y2, w2, v1, v2⟩ := t2
    have S4 := S3.step x2 y2
    have T4 := T0.step x2 S3.l.pen
    refine for_it w2 (fun j σ' H' => ∃ G3 env' rows', SOk C G0 H0 G3 H' σ' env' q ∧ Sub G2 G3 ∧ noOwnE env' = true ∧ env'.length = env.length ∧ ((env'.set ia .un).set ib .un) = (((env.set i .un).set ia .un).set ib .un) ∧ σ'[i]? = some (some (.ref l)) ∧ TabS H0 G3 H' l rs rows' ∧ tabL cs (ds.drop j) rows' = some rows) ?_ ?_ ?_ ?_
    · exact ⟨G2, env.set i .un, _, S4, Sub.refl _, ne, by rw [List.length_set], rfl, hsl, T4, by rw [List.drop_zero]; exact er2⟩
    · rintro j σ' H' hj ⟨G3, env', rows', S', s', _⟩
      exact v1 G3 H' s' S'.l.sub fun e => by cases e
    · rintro j x σ' H' H'' hj ⟨G3, env', rows', S', s', nn, ln, es, hs, T5, e5⟩ y
      have hd : ds[j]? = some ds[j] := List.getElem?_eq_getElem hj
      obtain ⟨G5, al, rx⟩ := v2 j ds[j] G3 H' x H'' hd s' S'.l.sub y
      rw [List.drop_eq_getElem_cons hj] at e5
      generalize ds[j] = d at rx e5
      have S5 : SOk C G0 H0 G5 H'' σ' env' q := S'.step (S'.l.ext al) (S'.l.pen.alc al)
      have T6 := T5.step (S'.l.ext al) S'.l.pen
      unfold tabL at e5
      split at e5
      · rename_i a b
        split at e5
        · rename_i rows2 e6
          refine ⟨G5, env', q, .tup [.int a, .int b], (env'.set ia (.val (.int a))).set ib (.val (.int b)), S5.l, rx, rfl, fun σ1 L1 l1 sm => ?_⟩
          have la2 : ia < env'.length := by rw [ln]; exact la
          have lb2 : ib < env'.length := by rw [ln]; exact lb
          have ga : σ1[ia]? = some (some (.int a)) := by
            obtain ⟨v, b1, b2⟩ := L1.val (i := ia) (d := .int a) (by rw [List.getElem?_set_ne (fun e => hab e.symm), List.getElem?_set_self la2])
            cases b2
            exact b1
          have gb : σ1[ib]? = some (some (.int b)) := by
            obtain ⟨v, b1, b2⟩ := L1.val (i := ib) (d := .int b) (by rw [List.getElem?_set_self (by rw [List.length_set]; exact lb2)])
            cases b2
            exact b1
          have gl : σ1[i]? = some (some (.ref l)) := by
            rw [sm.out i (by simp [hi1, hi2])]
            exact hs
          have S6 := S5.less L1 l1
          have nn2 : noOwnE ((env'.set ia (.val (.int a))).set ib (.val (.int b))) = true := noOwn_set (noOwn_set nn fun _ z => by cases z) fun _ z => by cases z
          refine cells_run nn2 gl ga gb cs _ _ _ S6 T6 e6 fun H7 S7 T7 => ?_
          refine ⟨G5, _, rows2, S7, s'.trans al.gro, nn2, by rw [List.length_set, List.length_set, ln], ?_, gl, T7, e5⟩
          rw [List.set_comm (Slot.val (Pu.D.int b)) Slot.un (fun e => hab e.symm), List.set_set, List.set_set]
          exact es
        · cases e5
      · cases e5
    · rintro σ' H' ⟨G3, env', rows', S', s', nn, ln, es, hs, T5, e5⟩
      rw [List.drop_length] at e5
      cases e5
      have S6 := (S'.un_same ia).un_same ib
      rw [es] at S6
      have nn3 : noOwnE (((env.set i .un).set ia .un).set ib .un) = true := noOwn_set (noOwn_set ne fun _ z => by cases z) fun _ z => by cases z
      obtain ⟨G7, S7, s7⟩ := T5.frz S6 nn3 hs
      exact ⟨G0, H0, G7, _, q, S7, z.gro ((x2.gro.trans s').trans s7)⟩
theorem sm_tab {y : Str} {py pos spos pos2 : Pos} {elt tg iter tg2 iter2 : Expr} {scope : Scope} {kx : Str} {body rest : List Stmt} (i ia ib ik : Nat) {s1 s2 : Env → Option Int} {m1 m2 : EM} (hp : PassesOwn (model X.prog X.w) X.A X.env X.xe) (hc : X.calm = true) (hN : X.N.Nodup)
    (hk : ∀ env s, s1 (env.set ik s) = s1 env) (h1 : ∀ env n, s1 env = some n → ∀ q, m1 env q = .ok (.int n) q) (h2 : ∀ env n, s2 env = some n → ∀ q, m2 env q = .ok (.int n) q)
    (hi : PI X tg iter (rI C W false (mRng1 m2))) (ok : BlkOk X.N X.env.scope scope [(kx, ik)])
    (hg : ∀ (s : Shared) (H : Hp) (Cb : Addr) (cl : List (Str × Addr)) (fp : List Addr), PG (X.blk s H scope (compEnvC scope cl Cb X.env) fp) tg (rG C [ik] (gNm ik))) (ht : ∀ (s : Shared) (H : Hp) (Cb : Addr) (cl : List (Str × Addr)) (fp : List Addr), PTs (X.blk s H scope (compEnvC scope cl Cb X.env) fp) [] (rT C W0 tmYes))
    (he : ∀ (s : Shared) (H : Hp) (Cb : Addr) (cl : List (Str × Addr)) (fp : List Addr), PE (X.blk s H scope (compEnvC scope cl Cb X.env) fp) elt (rF C W0 (mFOp kRep (mFr (mLst (aCons (mC (.int 0)) aNil))) m1)))
    (hi2 : PI X tg2 iter2 (rI C W true it)) (hg2 : PG X tg2 (rG C [ia, ib] (gTp (gsCons (gNm ia) (gsCons (gNm ib) gsNil))))) (hb : PSs X body (tCs i ia ib cs)) (hr : PSs X rest (rS C W r))
    (hi1 : i ≠ ia := by decide) (hib : i ≠ ib := by decide) (hab : ia ≠ ib := by decide) (hy : X.N[i]? = some y := by rfl) (hyl : X.env.scope.names.lookup y = some .local := by rfl)
    (hsw : swapsWith (.ListComp elt [⟨tg, iter, [], 0⟩] scope pos) (some (.Name y py)) spos.line X.env = pure true := by rfl) (hs : ∀ x, foldedSetIterable iter X.env x = pure x := by intro _; rfl) (hs2 : ∀ x, foldedSetIterable iter2 X.env x = pure x := by intro _; rfl) :
    PSs X (.Assign [.Name y py] (.ListComp elt [⟨tg, iter, [], 0⟩] scope pos) spos :: .For tg2 iter2 body [] pos2 :: rest) (rS C W (mTab i ia ib s1 s2 it cs r)) :=
  (pss_cons (ps_setLc hc hN hy hyl hsw hi ok hg ht he hs) (pss_cons (ps_for hp hc hi2 hg2 hb hs2) hr)).of fun _ _ _ h => rd_tab hk h1 h2 hi1 hib hab h
end
end Pu
end

section
set_option maxHeartbeats 4000000
/-! t[lo::-1] of tuples -/
namespace HT
open PySem PySem.Spec PyProof.Rows
def rvN (n : Nat) (lo : Option Int) : Nat := match lo with
  | none => n
  | some v => if v < 0 then (v + n + 1).toNat else min (v + 1).toNat n
theorem rvN_le (n : Nat) (lo : Option Int) : rvN n lo ≤ n := by
  unfold rvN
  cases lo with
  | none => exact Nat.le_refl _
  | some v => show (if v < 0 then (v + n + 1).toNat else min (v + 1).toNat n) ≤ n; split <;> omega
theorem adjust_rev (lo : Option Int) (n : Nat) : Builtin.Slice.sliceAdjust lo none (-1) (n : Int) = (((rvN n lo : Nat) : Int) - 1, -1) := by
  unfold Builtin.Slice.sliceAdjust rvN
  have h1 : (-1 : Int) < 0 := by omega
  simp only [h1, if_true]
  cases lo with
  | none => rfl
  | some v =>
    simp only
    congr 1
    split
    · omega
    · omega
theorem places_rev (k : Nat) : Builtin.Slice.slicePlaces ((k : Int) - 1) (-1) (-1) = k := by
  unfold Builtin.Slice.slicePlaces
  have h1 : ¬ (-1 : Int) > 0 := by omega
  have h2 : (- -1 : Int) = 1 := by omega
  simp only [h1, if_false, h2, Int.ediv_one]
  split <;> omega
theorem fm_congr {α β : Type} {f g : α → Option β} : ∀ {l : List α}, (∀ a ∈ l, f a = g a) → l.filterMap f = l.filterMap g
  | [], _ => rfl
  | a :: l, h => by
    rw [List.filterMap_cons, List.filterMap_cons, h a List.mem_cons_self, fm_congr fun x hx => h x (List.mem_cons_of_mem _ hx)]
theorem pick_rev (xs : Array Value) (k : Nat) (h : k ≤ xs.size) : ((List.range k).filterMap fun (m : Nat) => xs[(((k : Int) - 1) + (m : Int) * (-1)).toNat]?).toArray = (xs.toList.take k).reverse.toArray := by
  congr 1
  have hs : (xs.toList.take k).toArray.size = k := by rw [List.size_toArray, List.length_take, Array.length_toList]; omega
  have e1 : (List.range k).filterMap (fun (m : Nat) => xs[(((k : Int) - 1) + (m : Int) * (-1)).toNat]?) = (List.range k).filterMap (fun (m : Nat) => (xs.toList.take k).toArray[k - 1 - m]?) := by
    refine fm_congr fun m hm => ?_
    have hm := List.mem_range.mp hm
    have e : (((k : Int) - 1) + (m : Int) * (-1)).toNat = k - 1 - m := by omega
    rw [e]
    rw [show (xs.toList.take k).toArray[k - 1 - m]? = (xs.toList.take k)[k - 1 - m]? from List.getElem?_toArray .., List.getElem?_take, if_pos (by omega), Array.getElem?_toList]
  have e2 := PySem.W.krv_all (xs.toList.take k).toArray
  rw [hs] at e2
  rw [e1, show (fun (m : Nat) => (xs.toList.take k).toArray[k - 1 - m]?) = (fun m => (xs.toList.take k).toArray[m]?) ∘ fun m => k - 1 - m from rfl, ← List.filterMap_map, PySem.W.krv_range, List.filterMap_reverse, e2]
section
variable {prog : Program} {w : World} {A : Around} {E : Value → Shared → Prop} {s : Shared}
theorem sliceApplied_rev {sl : Addr} {vl vc : Value} {lo : Option Int} {n : Nat} {Q : Int × Int × Nat → Shared → Prop} (hs : s.heap.IsSliceOf sl vl .none vc) (pl : IsPart vl lo) (pc : IsPart vc (some (-1)))
    (h : Q (((rvN n lo : Nat) : Int) - 1, -1, rvN n lo) s) : wpAny (model prog w) A (Builtin.Slice.sliceApplied (.ref sl) (pure (n : Int))) Q E s := by
  obtain ⟨os, hos, hcs, hds⟩ := id hs
  unfold Builtin.Slice.sliceApplied Builtin.Slice.sliceFields
  refine wpAny_bind (wpAny_bind (wpAny_field hos hds (x := vl) rfl (wpAny_bind (wpAny_field hos hds (x := .none) rfl (wpAny_bind (wpAny_field hos hds (x := vc) rfl (wpAny_pure ?_)))))))
  refine wpAny_bind (slicePart_ pc ?_)
  show wpAny _ _ (if ((-1 : Int) == 0) = true then _ else _) _ _ s
  rw [if_neg (by decide)]
  refine wpAny_bind (slicePart_ pl (wpAny_bind (slicePart_none (wpAny_bind (wpAny_pure ?_)))))
  show wpAny _ _ (match Builtin.Slice.sliceAdjust lo none (-1) (n : Int) with | (lo, hi) => pure (lo, (-1 : Int), Builtin.Slice.slicePlaces lo hi (-1))) _ _ s
  rw [adjust_rev lo n]
  show wpAny _ _ (pure (((rvN n lo : Nat) : Int) - 1, (-1 : Int), Builtin.Slice.slicePlaces (((rvN n lo : Nat) : Int) - 1) (-1) (-1))) _ _ s
  rw [places_rev]
  exact wpAny_pure h
theorem getItem_tuple_rev {t sl : Addr} {items : Array Value} {vl vc : Value} {lo : Option Int} {Q : Value → Shared → Prop} (ht : IsTup s.heap t items) (hs : s.heap.IsSliceOf sl vl .none vc) (pl : IsPart vl lo) (pc : IsPart vc (some (-1)))
    (h : Q (.ref s.heap.objs.size) { s with heap := s.heap.push { cls := .type "tuple", data := .seq (items.toList.take (rvN items.size lo)).reverse.toArray } })
    (hsz : items.size ≤ sizeLine) : wpAny (model prog w) A (getItem (.ref t) (.ref sl)) Q E s := by
  have htake : sizeOk (.seq (items.toList.take (rvN items.size lo)).reverse.toArray) := by
    show (items.toList.take (rvN items.size lo)).reverse.toArray.size ≤ sizeLine
    rw [List.size_toArray, List.length_reverse, List.length_take, Array.length_toList]
    omega
  obtain ⟨os, hos, hcs, hds⟩ := id hs
  have hTs : s.TypeIs (.ref sl) "slice" := ⟨os, hos, hcs⟩
  unfold getItem
  try with_reducible refine wpAny_holding ?_
  first | refine wpAny_bind (wpAny_pure ?_) | skip
  refine wpAny_bind (wpAny_sequenceKey ht.typeIs (by decide) ?_)
  refine wpAny_bind (wpAny_callSpecial?_slot (name := Str.ofString "__getitem__") ht.typeIs PyProof.Rows.slot_tuple_getitem
    (wpAny_call_entry PyProof.Rows.slot_tuple_getitem ht.typeIs entry_tuple_getitem ?_ (args_tuple_getitem _ _)))
  show wpAny _ _ (Builtin.Tuple.tupleItemsOf (.ref t) >>= _) _ _ s
  refine wpAny_bind (tupleItemsOf_ ht ?_)
  refine wpAny_bind (wpAny_typeOf hTs ?_)
  rw [if_pos (by decide)]
  refine wpAny_bind (sliceApplied_rev hs pl pc ?_)
  have hno : ¬ ((((((rvN items.size lo : Nat) : Int) - 1) == 0) && (-1 : Int) == 1 && (rvN items.size lo) == items.size) = true) := by
    intro q
    rw [Bool.and_eq_true, Bool.and_eq_true] at q
    exact absurd q.1.2 (by decide)
  show wpAny _ _ (if ((((rvN items.size lo : Nat) : Int) - 1) == 0 && (-1 : Int) == 1 && (rvN items.size lo) == items.size) = true then _ else _) _ _ s
  rw [if_neg hno, pick_rev items _ (rvN_le _ _)]
  first
    | exact wpAny_bind (m := Builtin.Tuple.tupleExact _) (wpAny_newObj_type (wpAny_pure ⟨_, rfl, wpAny_pure h⟩) htake)
    | exact wpAny_bind (m := Builtin.Tuple.tupleExact _) (wpAny_newObj_type (wpAny_bind (wpAny_pure (wpAny_pure ⟨_, rfl, wpAny_pure h⟩))) htake)
    | exact wpAny_bind (wpAny_bind (m := Builtin.Tuple.tupleExact _) (wpAny_newObj_type (wpAny_pure (wpAny_pure ⟨_, rfl, wpAny_pure h⟩)) htake))
    | exact wpAny_bind (wpAny_bind (m := Builtin.Tuple.tupleExact _) (wpAny_newObj_type (wpAny_pure ⟨_, rfl, wpAny_pure h⟩) htake))
end
end HT
namespace Pu
open PySem PySem.Spec PyProof.Rows L2
def revD {α : Type} (xs : List α) (lo : Option Int) : List α := (xs.take (HT.rvN xs.length lo)).reverse
theorem revD_len {α : Type} (xs : List α) (lo : Option Int) : (revD xs lo).length ≤ xs.length := by
  unfold revD
  rw [List.length_reverse, List.length_take]
  omega
theorem revD_none {α : Type} (xs : List α) : revD xs none = xs.reverse := by
  unfold revD
  show (xs.take xs.length).reverse = _
  rw [List.take_length]
theorem Reps.revD {C : Ctx} {G : Hp} {vs : List V} {ds : List D} (h : Reps C G vs ds) (lo : Option Int) : Reps C G (Pu.revD vs lo) (Pu.revD ds lo) := by
  unfold Pu.revD
  rw [h.length]
  exact (h.take _).reverse
section
variable {X : Cx} {e : Expr} {te : TE} {lo : Option Expr} {st : Expr} {tl ts : TO} {pos p2 : Pos}
def tSlR (K : PySem.W.Frag) (te : TE) (tl ts : TO) : TE := fun σ H Q => te σ H fun x H1 => tl σ H1 fun l H2 => ts σ H2 fun c H3 => c = some (-1) ∧ ∃ a xs, x = .ref a ∧ SqT K H3 a xs ∧ ∀ p, H3 p = none → Q (.ref p) (upd H3 p (.tup (revD xs l)))
theorem pe_sliceR (he : PE X e te) (hl : PO X lo tl) (hc : PO X (some st) ts) : PE X (.Subscript e (.Slice lo none (some st) p2) pos) (tSlR X.K te tl ts) := by
  refine ⟨fun pins s σ H Q I h => ?_⟩
  refine Subscript_ (thn (he.run pins s σ H _ I h) fun v s1 ⟨x, H1, I1, r1, q1⟩ => ?_)
  refine wpAny_Slice (thn (hl.run pins s1 σ H1 _ I1 q1) fun vl s2 ⟨l, H2, I2, pl, q2⟩ => ?_)
  rw [evalPart_none]
  refine wpAny_pure ?_
  refine thn (hc.run pins s2 σ H2 _ I2 q2) fun vc s3 ⟨c, H3, I3, pc, q3⟩ => ?_
  obtain ⟨ec, a, xs, ex, hx, q⟩ := q3
  subst ec ex
  cases r1
  have I4 : Inv X pins σ H3 { s3 with heap := s3.heap.push { cls := .type "slice", data := .fields #[vl, .none, vc] } } := I3.kept (t' := s3.toks) fun b ob q => Heap.get?_push_of_some _ q
  obtain ⟨its, r, ht, hz⟩ := I4.tuple hx
  have hlen : its.toArray.size = xs.length := by rw [List.size_toArray]; exact r.length.symm
  have hg : wpAny (model X.prog X.w) X.A (getItem (.ref a) (.ref s3.heap.objs.size)) (EP X pins σ Q) X.xe { s3 with heap := s3.heap.push { cls := .type "slice", data := .fields #[vl, .none, vc] } } := by
    refine HT.getItem_tuple_rev ht (Heap.IsSliceOf.new ..) pl pc ?_ (by rw [hlen]; exact hz)
    rw [hlen]
    refine ⟨.ref _, _, I4.laid (t' := s3.toks) (o := .tup (revD xs l)) (fun b ob q => Heap.get?_push_of_some _ q) (Nat.le_refl _) ?_, rfl, q _ (I4.hok.fresh (Nat.le_refl _))⟩
    exact ⟨Nat.le_trans (revD_len xs l) hz, _, (r.take (HT.rvN xs.length l)).reverse, IsTup.new _ _⟩
  show wpAny (model X.prog X.w) X.A (subscriptTail e (.Slice lo none (some st) p2) (.ref a) (.ref s3.heap.objs.size)) (EP X pins σ Q) X.xe { s3 with heap := s3.heap.push { cls := .type "slice", data := .fields #[vl, .none, vc] } }
  exact tail_any (ops := [.ref a, .ref s3.heap.objs.size]) ht.typeIs PyProof.Rows.slot_tuple_getitem.lookup hg (by with_unfolding_all rfl)
end
def kSlR (d : D) (lo : Option Int) : Option D := match d with
  | .tup xs => some (.tup (revD xs lo))
  | _ => none
def mSlR (ma : EM) (ml ms : OM) : EM := fun env p => (ma env p).bind fun d p1 => (ml env p1).bind fun lo p2 => (ms env p2).bind fun st p3 => if st = some (-1) then (match kSlR d lo with
  | some z => .ok z p3
  | none => .bad) else .bad
section
variable {X : Cx} {C : Ctx} {W : WX} {a : Expr} {ma : EM} {pos : Pos}
theorem pm_slR {lo : Option Expr} {st : Expr} {ml ms : OM} {p2 : Pos} (ha : PE X a (rB C W ma)) (hl : PO X lo (rO C W ml)) (hh : PO X (some st) (rO C W ms)) : PE X (.Subscript a (.Slice lo none (some st) p2) pos) (rE C W (mSlR ma ml ms)) :=
  (pe_sliceR ha hl hh).of fun σ H Q ⟨G, env, p, L, o⟩ => by
    refine ⟨G, env, p, L, o.bind.imp (fun d q z v G1 H1 x1 y1 r1 => ?_) fun _ _ z => z⟩
    have L1 := L.step x1 y1
    refine ⟨G1, env, q, L1, z.bind.imp (fun l q2 z2 G2 H2 x2 y2 => ?_) fun _ _ z => z.step x1⟩
    have L2 := L1.step x2 y2
    refine ⟨G2, env, q2, L2, z2.bind.imp (fun h q3 z3 G3 H3 x3 y3 => ?_) fun _ _ z => z.step (x1.trans x2)⟩
    have L3 := L2.step x3 y3
    have x13 := (x1.trans x2).trans x3
    have r3 := (r1.mono x2.gro).mono x3.gro
    split at z3
    · rename_i hst
      refine ⟨hst, ?_⟩
      cases d with
      | tup xs =>
        obtain ⟨t, vs, rfl, hG, rs⟩ := r3.tup
        refine ⟨t, vs, rfl, SqT.of (L3.sub _ _ hG), fun n hn => ?_⟩
        have al : Alc G3 H3 (upd G3 n (.tup (revD vs l))) (upd H3 n (.tup (revD vs l))) := Alc.put L3.sub hn
        exact z3 (.ref n) _ _ (x13.trans (L3.ext al)) (y3.alc al) (.tup upd_same ((rs.revD l).mono al.gro))
      | _ => exact z3.elim
    · exact z3.elim
end
end Pu
end

section
set_option maxHeartbeats 4000000
namespace Pu
open PySem PySem.Spec PyProof.Rows L2
/-! a, b = [..], .. where a name is captured: by a tuple -/
theorem SReps.put {C : Ctx} {G' H' H : Hp} {T : Addr} {o : HO} (hT : H' T = none) : ∀ {vs : List V} {ss : List Slot}, SReps C G' H' H vs ss → SReps C G' (upd H' T o) H vs ss
  | _, _, .nil => .nil
  | _, _, .val r hd t => .val r hd (SReps.put hT t)
  | _, _, .own h n hh r f t => .own h n (by rw [upd_ne (ne_of_none hh hT)]; exact hh) r f (SReps.put hT t)
section
variable {X : Cx} {C : Ctx} {W : WX} {pos : Pos} {m : AS} {x y : Str}
theorem sm_parC2 (i j : Nat) {a b : Expr} {px py pt : Pos} {kt k2 : Nat} {pt2 : Pos} (hc : X.calm = true) (hN : X.N.Nodup) (ha : PA X [a, b] (rAS C W m)) (hi : X.N[i]? = some x := by rfl) (hj : X.N[j]? = some y := by rfl)
    (hx : Loc X.env.scope x := by first | exact Or.inl rfl | exact Or.inr rfl) (hy : Loc X.env.scope y := by first | exact Or.inl rfl | exact Or.inr rfl) (hfx : X.fn x = true ∨ X.env.scope.names.lookup x = some .local := by first | exact .inl rfl | exact .inr rfl) (hfy : X.fn y = true ∨ X.env.scope.names.lookup y = some .local := by first | exact .inl rfl | exact .inr rfl)
    (hs : swapsWithSole [.Tuple [.Name x px, .Name y py] kt pt] (.Tuple [a, b] k2 pt2) pos.line X.env = pure false := by rfl) (hw : swappedStores [.Tuple [.Name x px, .Name y py] kt pt] (.Tuple [a, b] k2 pt2) X.env = pure none := by rfl)
    (h1 : (assignEach [.Tuple [.Name x px, .Name y py] kt pt] X.env).map (·.2) = [assign (.Tuple [.Name x px, .Name y py] kt pt) X.env] := by rfl)
    (hn : (assignEach [.Name x px, .Name y py] X.env).length = 2 := by rfl) (hst : (assignEach [.Name x px, .Name y py] X.env).findIdx? (·.1) = none := by rfl)
    (he1 : (assignEach [.Name x px, .Name y py] X.env).map (·.2) = assign (.Name x px) X.env :: (assignEach [.Name y py] X.env).map (·.2) := by rfl) (he2 : (assignEach [.Name y py] X.env).map (·.2) = assign (.Name y py) X.env :: (assignEach [] X.env).map (·.2) := by rfl) :
    PS X (.Assign [.Tuple [.Name x px, .Name y py] kt pt] (.Tuple [a, b] k2 pt2) pos) (rS C W (mPar2 i j m)) :=
  (ps_asg (pe_tup ha) (pg_tup (n := 2) hc (pgs_cons (pg_name hN hi hx hfx) (pgs_cons (pg_name hN hj hy hfy) pgs_nil he2) he1) hn hst) hs hw h1).of fun D σ H ⟨G0, H0, G, env, p, S, o⟩ => by
  refine ⟨G, env, p, S.l, (o.out S).imp (fun ss q z vs G1 H1 x1 y1 r1 => ?_) fun _ _ z => z⟩
  have S1 := S.step x1 y1
  have nn := r1.noOwn S.l S1.l
  split at z
  · rename_i s t
    obtain ⟨v, w, rfl⟩ : ∃ v w, vs = [v, w] := by
      have e := r1.len
      match vs, e with
      | [v, w], _ => exact ⟨v, w, rfl⟩
    refine ⟨by rw [sizeLine_eq]; show 2 ≤ _; omega, fun T hT => ?_⟩
    have al : Alc G1 H1 G1 (upd H1 T (.tup [v, w])) := Alc.own S1.l.sub hT
    have S2 := S1.step (S1.l.ext al) (S1.l.pen.alc al)
    have r2 := r1.put (o := .tup [v, w]) hT
    refine ⟨T, [v, w], rfl, SqT.of upd_same, rfl, v, [w], rfl, w, [], rfl, rfl, ?_⟩
    obtain ⟨S3, n3⟩ := S2.setR i r2 S.x.fre nn
    obtain ⟨S4, _⟩ := S3.setR j r2.tl S.x.fre n3
    exact z _ G1 _ S4 x1.gro
  · exact z.elim
end
end Pu
end

section
set_option maxHeartbeats 4000000
namespace Pu
open PySem PySem.Spec PyProof.Rows L2
/-! mirrors that never end in an error of the package -/
def NE {α : Type} (m : Env → Pen → Out α) : Prop := ∀ env q e q2, m env q ≠ .err e q2
def NEs (m : SM) : Prop := ∀ env q e env2 q2, m env q ≠ .err e env2 q2
def NEf (m : FM) : Prop := ∀ ds q e q2, m ds q ≠ .err e q2
theorem nx_bind {α β : Type} {o : Out α} {k : α → Pen → Out β} (h : ∀ e q, o ≠ .err e q) (hk : ∀ a q e q2, o = .ok a q → k a q ≠ .err e q2) (e : Err) (q2 : Pen) : o.bind k ≠ .err e q2 := fun z => by
  cases o with
  | ok a q => exact hk a q e q2 rfl z
  | err er q => exact h er q rfl
  | bad => cases z
theorem nx_val {i : Nat} : NE (mVal i) := fun env q e q2 z => by
  unfold mVal at z
  split at z <;> cases z
theorem nx_own {i : Nat} : NE (mOwn i) := fun env q e q2 z => by
  unfold mOwn at z
  split at z <;> cases z
theorem nx_c {d : D} : NE (mC d) := fun env q e q2 z => by cases z
theorem nx_nil : NE aNil := fun env q e q2 z => by cases z
theorem nx_cons {m : EM} {r : AM} (h : NE m) (h2 : NE r) : NE (aCons m r) := fun env q => nx_bind (h env q) fun a q1 e q2 _ => nx_bind (h2 env q1) (fun _ _ _ _ _ z => by cases z) e q2
theorem nx_op {k : D → D → Option D} {a b : EM} (h : NE a) (h2 : NE b) : NE (mOp k a b) := fun env q => nx_bind (h env q) fun x q1 e q2 _ => nx_bind (h2 env q1) (fun y q3 e q4 _ z => by
  split at z <;> cases z) e q2
theorem nx_call {k : List D → Option D} {r : AM} (h : NE r) : NE (mCall k r) := fun env q => nx_bind (h env q) fun x q1 e q2 _ z => by
  split at z <;> cases z
theorem nx_fr {r : AM} (h : NE r) : NE (mFr r) := fun env q => nx_bind (h env q) fun x q1 e q2 _ z => by cases z
theorem nx_it {a : EM} (h : NE a) : NE (mIt a) := fun env q => nx_bind (h env q) fun x q1 e q2 _ z => by
  split at z <;> cases z
theorem nx_ne {α : Type} {o : Out α} {e : Err} {q : Pen} : o.ne ≠ .err e q := fun z => by cases o <;> cases z
theorem nx_compL {g : GM} {tt : TM} {te : EM} {env : Env} : ∀ (ds : List D) (q : Pen) (e : Err) (q2 : Pen), compL g tt te env ds q ≠ .err e q2
  | [], q, e, q2 => fun z => by cases z
  | d :: ds, q, e, q2 => fun z => by
    unfold compL at z
    split at z
    · cases z
    · refine nx_bind (fun _ _ => nx_ne) (fun k q1 e q2 _ => ?_) e q2 z
      split
      · exact nx_bind (fun _ _ => nx_ne) (fun x q3 e q4 _ => nx_bind (nx_compL ds q3) (fun _ _ _ _ _ z => by cases z) e q4) e q2
      · exact nx_compL ds q1 e q2
theorem nx_comp {it : AM} {vs : List Nat} {g : GM} {tt : TM} {te : EM} (h : NE it) : NE (mComp it vs g tt te) := fun env q => nx_bind (h env q) fun x q1 e q2 _ z => by
  split at z
  · exact nx_compL _ _ _ _ z
  · cases z
theorem nx_ret {m : EM} (h : NE m) : NEs (mRet m) := fun env q e env2 q2 z => by
  unfold mRet at z
  cases k : m env q with
  | ok a q1 => rw [k] at z; cases z
  | err er q1 => exact h _ _ _ _ k
  | bad => rw [k] at z; cases z
theorem nx_def {n : Nat} {m : SM} (h : NEs m) : NEf (mDef n m) := fun ds q e q2 z => by
  unfold mDef at z
  cases k : m (env0 n ds) q with
  | err er env2 q1 => exact h _ _ _ _ _ k
  | next _ _ => rw [k] at z; cases z
  | ret _ _ => rw [k] at z; cases z
  | brk _ _ => rw [k] at z; cases z
  | cnt _ _ => rw [k] at z; cases z
  | bad => rw [k] at z; cases z
end Pu
end

section
set_option maxHeartbeats 2000000
namespace Pu
open PySem PySem.Spec PyProof.Rows L2
/-! ### != of lists of different lengths: their items are not looked at -/
def rNeLen (K : PySem.W.Frag) : R2 := fun x y H Q => ∃ (a b : Addr) (xs ys : List V), x = .ref a ∧ y = .ref b ∧ SqL K H a xs ∧ SqL K H b ys ∧ xs.length ≠ ys.length ∧ Q (.bl true) H
theorem op_neLen {X : Cx} (hu : X.A.units + 64 < cLine) : OpR X (compareOp .NotEq) (rNeLen X.K) := by
  intro pins s σ H x y v u Q I rx ry h
  obtain ⟨a, b, xs, ys, rfl, rfl, h1, h2, hn, q⟩ := h
  cases (show v = Value.ref a from rx)
  cases (show u = Value.ref b from ry)
  obtain ⟨i1, r1, l1, _⟩ := I.list h1
  obtain ⟨i2, r2, l2, _⟩ := I.list h2
  obtain ⟨o1, n1, ho1, hc1, _, hd1⟩ := l1
  obtain ⟨o2, n2, ho2, hc2, _, hd2⟩ := l2
  refine SeqAt.RcNeAt.lists_lengths (A := X.A) (s := s) (items := i1.toArray) (items2 := i2.toArray) ⟨o1, ho1, hc1, n1, hd1⟩ ⟨o2, ho2, hc2, n2, hd2⟩ ?_ (by omega) X.prog X.w _ _ ⟨.bl true, H, I, rfl, q⟩
  have e1 := r1.length
  have e2 := r2.length
  simp only [List.size_toArray, bne_iff_ne, ne_eq]
  omega
def kNeE (d e : D) : Option D := match d, e with
  | .lst xs, .lst ys => if xs.length ≠ ys.length then some (.bl true) else kNe (.lst xs) (.lst ys)
  | d, e => kNe d e
theorem ok_neE {C : Ctx} {K : PySem.W.Frag} : OpOk C (fun x y H Q => rNeD K x y H Q ∨ rNeLen K x y H Q) kNeE := by
  intro G H σ env p v w d e z Q L rv rw' ek q
  have base : kNe d e = some z → rNeD K v w H Q ∨ rNeLen K v w H Q := fun h => .inl (ok_ne G H σ env p v w d e z Q L rv rw' h q)
  unfold kNeE at ek
  split at ek
  · rename_i xs ys
    split at ek
    · rename_i hn
      cases ek
      obtain ⟨a, ws, rfl, hH, rs⟩ := rv.lst L
      obtain ⟨b, us, rfl, hH2, rs2⟩ := rw'.lst L
      exact .inr ⟨a, b, ws, us, rfl, rfl, SqL.of hH, SqL.of hH2, by rw [rs.length, rs2.length]; exact hn, q _ G H (Alc.refl L.sub) (.bl _)⟩
    · exact base ek
  · exact base ek
section
variable {X : Cx} {C : Ctx} {W : WX} {a b : Expr} {ma mb : EM} {pos : Pos}
theorem pm_neE (hu : X.A.units + 64 < cLine) (ha : PE X a (rB C W ma)) (hb : PE X b (rB C W mb)) : PE X (.Compare a [.NotEq] [b] pos) (rE C W (mOp kNeE ma mb)) := pm_cmp ok_neE (Pu.op_or (op_neD hu) (op_neLen hu)) ha hb (nomark _)
theorem tm_neE (hu : X.A.units + 64 < cLine) (ha : PE X a (rB C W ma)) (hb : PE X b (rB C W mb)) : PT X (.Compare a [.NotEq] [b] pos) (rT C W (mT (mOp kNeE ma mb))) := tm_cmp ok_neE (Pu.op_or (op_neD hu) (op_neLen hu)) ha hb (nomark _)
end
end Pu
end

section
set_option maxHeartbeats 4000000
/-! ### enumerate of a tuple -/
namespace PySem
open Sem (wp)
open AutoSeq1 (wpAny_loadPart')
theorem meets_enumerate_newT (l : Addr) (items : Array Value) (n : Nat) (dct : Option Addr) (sl : Array (Option Value)) :
    Meets (Builtin.«enumerate.__new__» ⟨[.type "enumerate", .ref l], []⟩) (fun _ R s => s.heap.get? l = some { cls := .type "tuple", dict := dct, data := .seq items n, slots := sl } ∧
      R (.ok (.ret (.ref (s.heap.push { cls := .type "tuple_iterator", data := .fields #[.ref l, .int 0 0] }).objs.size)))
        { s with heap := (s.heap.push { cls := .type "tuple_iterator", data := .fields #[.ref l, .int 0 0] }).push { cls := .type "enumerate", data := .fields #[.none, .bool false, .ref s.heap.objs.size, rawInt 0, .none, .none] } }) :=
  .of_wp fun prog w A R s h => by
    obtain ⟨hp, g, d, tk, os⟩ := s; obtain ⟨hl, h⟩ := h
    have hsub := sub_enumerate
    have hL : Heap.IsTuple (Shared.heap ⟨hp, g, d, tk, os⟩) l items := ⟨_, hl, rfl, n, rfl⟩
    wp_walk using wpAny_loadPart' hl
    refine wpAny_stack_any fun st => wpAny_pure ?_
    split
    · rename_i c _ _ _ _ _
      cases (c == Value.type "enumerate")
      · wp_walk using wpAny_loadPart' hl, wpAny_pyIter_tuple hL
        exact ⟨_, rfl, h⟩
      · wp_walk using wpAny_loadPart' hl, wpAny_pyIter_tuple hL
        exact ⟨_, rfl, h⟩
    · wp_walk using wpAny_loadPart' hl, wpAny_pyIter_tuple hL
      exact ⟨_, rfl, h⟩
section
variable {prog : Program} {w : World} {A : Around} {E : Value → Shared → Prop} {s : Shared}
theorem call_enumerate_tuple {l : Addr} {items : Array Value} {Q : Value → Shared → Prop} (hL : s.heap.IsTuple l items)
    (h : ∀ h', IsEnum h' (s.heap.objs.size + 1) s.heap.objs.size 0 .none → h'.IsTupleIter s.heap.objs.size l 0 → h'.objs.size = s.heap.objs.size + 2 →
      (∀ b o, s.heap.get? b = some o → h'.get? b = some o) → Q (.ref (s.heap.objs.size + 1)) { s with heap := h' }) :
    wpAny (model prog w) A (call (.type "enumerate") [.ref l]) Q E s := by
  obtain ⟨⟨c, dct, dt, sl⟩, hl, hc, n, hd⟩ := hL
  replace hc : c = .type "tuple" := hc
  replace hd : dt = .seq items n := hd
  subst hc hd
  refine callType_new F.called_enumerate (by decide) (F.typeCall_enumerate_1 _) (F.newCall_enumerate_1 _) (fun obj => F.args_object_init_2 obj _) F.entry_enumerate_new
    (meets_enumerate_newT l items n dct sl) ⟨hl, ?_⟩
  have hz : (s.heap.push { cls := .type "tuple_iterator", data := .fields #[.ref l, .int 0 0] }).objs.size = s.heap.objs.size + 1 := Heap.size_push ..
  show _ ∧ _
  rw [hz]
  have he : IsEnum ((s.heap.push { cls := .type "tuple_iterator", data := .fields #[.ref l, .int 0 0] }).push
      { cls := .type "enumerate", data := .fields #[.none, .bool false, .ref s.heap.objs.size, rawInt 0, .none, .none] }) (s.heap.objs.size + 1) s.heap.objs.size 0 .none := by
    have := Heap.get?_push_size (s.heap.push { cls := .type "tuple_iterator", data := .fields #[.ref l, .int 0 0] })
      (o := { cls := .type "enumerate", data := .fields #[.none, .bool false, .ref s.heap.objs.size, rawInt 0, .none, .none] }) rfl
    rw [hz] at this; exact this
  refine ⟨⟨_, he, rfl⟩, h _ he ⟨_, Heap.get?_push_of_some _ (Heap.get?_push_size _ rfl), rfl, rfl⟩ (by rw [Heap.size_push, hz]) fun b o x => Heap.get?_push_of_some _ (Heap.get?_push_of_some _ x)⟩
end
end PySem
namespace L2
open PySem PySem.Spec PyProof.Rows
def IteT (K : PySem.W.Frag) (a : Addr) : It :=
  ⟨fun i H => ∃ (xs : List V) (x : V), SqT K H a xs ∧ xs[i]? = some x, fun i H v H' => ∃ T x, v = .ref T ∧ H T = none ∧ H' = upd H T (.tup [.int (i : Nat), x]) ∧ ∀ xs, SqT K H a xs → xs[i]? = some x, fun i H => ∃ xs : List V, SqT K H a xs ∧ xs.length = i⟩
theorem turn_enumT {P : Program} {w : World} {K : PySem.W.Frag} {elts : List Expr} {kk : Nat} {tpos : Pos} (a e it : Addr) (hae : a ≠ e) (hai : a ≠ it) :
    Turn P w K (.Tuple elts kk tpos) (IteT K a) [e, it] e (fun i h => (∃ old, IsEnum h e it ((i : Nat) : Int) old) ∧ h.IsTupleIter it a i ∧ e ≠ it) where
  mem := by simp
  obj := fun i h st b hb => by
    obtain ⟨⟨old, he⟩, ⟨o, ho, hc, hd⟩, _⟩ := st
    have e' : b = e ∨ b = it := by simpa using hb
    rcases e' with z | z
    · rw [z]; exact ⟨_, he, fun v q => nomatch q⟩
    · rw [z]; exact ⟨o, ho, fun v q => by rw [hd] at q; cases q⟩
  keep := fun i h h' st k => let ⟨⟨old, he⟩, hi, hne⟩ := st; ⟨⟨old, k e (by simp) _ he⟩, hi.at fun o q => k it (by simp) o q, hne⟩
  item := by
    intro X hP hw hK hc i pins s σ H E I hf st hg
    subst hP hw hK
    obtain ⟨⟨old, he⟩, hit, hne⟩ := st
    obtain ⟨xs, x, hq, hx⟩ := hg
    obtain ⟨its, rv, p, hz⟩ := I.tuple hq
    obtain ⟨u, hu, ru⟩ := rv.get hx
    have hel : e < s.heap.objs.size := Heap.lt_size he
    have hil : it < s.heap.objs.size := by obtain ⟨_, q, _⟩ := hit; exact Heap.lt_size q
    have hlt : i < its.toArray.size := by
      rw [List.size_toArray]
      exact (List.getElem?_eq_some_iff.mp hu).1
    refine wpAny_pyNext_enum_itemD (Draws.tuple (A := X.A.in1) (I.ok.hd hc) it a hai its.toArray) he ⟨hit, p⟩ hlt hne (by simp [hne, Ne.symm hae]) fun v h' tk hv ho hst hT hsz hk => ?_
    have ev : v = u := by
      have h1 : its.toArray[i]? = some u := by simpa using hu
      rw [h1] at hv
      exact (Option.some.inj hv).symm
    subst ev
    obtain ⟨hit', ht'⟩ := hst
    refine ⟨_, rfl, wpAny_letOwnedTupleGo_enum (s := { s with heap := h', toks := tk + 1 }) ho fun h'' he' sb => ?_⟩
    have hT2 : h''.get? s.heap.objs.size = some { cls := .type "tuple", data := .seq #[.int i tk, v] } := (sb.2 _ (Nat.ne_of_gt hel)).trans hT
    have new : ObjOk X.prog X.w (upd H s.heap.objs.size (.tup [.int (i : Nat), x])) h'' s.heap.objs.size (.tup [.int (i : Nat), x]) :=
      ⟨by show 2 ≤ sizeLine; decide, [.int i tk, v], .cons ⟨_, rfl⟩ (.cons ru .nil), ⟨_, hT2, rfl, _, rfl⟩⟩
    have I1 : Inv X pins σ (upd H s.heap.objs.size (.tup [.int (i : Nat), x])) { s with heap := h'', toks := tk + 1 } :=
      I.turnedNew (ch := [e, it]) (fun b ob hb q => (sb.2 b (fun z => hb (by simp [z]))).trans (hk b ob (fun z => hb (by simp [z])) (fun z => hb (by simp [z])) q)) hf (Nat.le_refl _) new
    refine ⟨.ref s.heap.objs.size, _, I1, rfl, ⟨_, x, rfl, I.hok.fresh (Nat.le_refl _), rfl, fun ys hy => by rw [I.tuple_inj hy hq]; exact hx⟩, ⟨⟨v, ?_⟩, hit'.at fun o q => (sb.2 it (Ne.symm hne)).trans q, hne⟩, fun b hb => ?_⟩
    · have e1 : ((i + 1 : Nat) : Int) = (i : Int) + 1 := by omega
      rw [e1]; exact he'
    · have hb' : b < s.heap.objs.size := by
        have e' : b = e ∨ b = it := by simpa using hb
        rcases e' with z | z
        · rw [z]; exact hel
        · rw [z]; exact hil
      rw [upd_ne (Nat.ne_of_lt hb')]
      exact (hf b hb).1
  done := by
    intro X hP hw hK hc i pins s σ H E I hf st hg
    subst hP hw hK
    obtain ⟨⟨old, he⟩, hit, hne⟩ := st
    obtain ⟨xs, hq, hx⟩ := hg
    obtain ⟨its, rv, p, hz⟩ := I.tuple hq
    obtain ⟨f0, f1, f2, f3, f4, f5⟩ := hf it (by simp)
    have hl := rv.length
    have hn : its.toArray.size = i := by rw [List.size_toArray]; omega
    refine wpAny_pyNext_enum_endD (Draws.tuple (A := X.A.in1) (I.ok.hd hc) it a hai its.toArray) he (by rw [hn]; exact ⟨hit, p⟩) fun h' eb => ⟨rfl, I.turned (t' := s.toks) (fun b o hb q => eb b o hb q) f0 f1 f3 f4 f5⟩
  self := fun A i s Q E st h => let ⟨⟨_, he⟩, _⟩ := st; wpAny_pyIter_enum he h
theorem walk_enumT {K : PySem.W.Frag} {a : Addr} {xs : List V} : Walk (IteT K a) xs.length (fun H => SqT K H a xs) (YPair (fun i => some (.int (i : Nat))) (fun i => xs[i]?)) := by
  refine ⟨fun i _ hi q => ⟨xs, xs[i], q, by simp [hi]⟩, fun _ q => ⟨xs, q, rfl⟩, fun i H v H' _ q y => ?_⟩
  obtain ⟨T, x, h1, h2, h3, h4⟩ := y
  exact ⟨T, .int (i : Nat), x, h1, h2, h3, rfl, h4 xs q⟩
def iEnumT (K : PySem.W.Frag) (ta : TA) : TI := fun σ H R => ta σ H fun vs H1 => ∃ a xs, vs = [.ref a] ∧ SqT K H1 a xs ∧ R (IteT K a) H1
theorem pi_enumT {X : Cx} {e : Expr} {ta : TA} {p pos tpos : Pos} {elts : List Expr} {kk : Nat} (hg : Gl X "enumerate") (hm : X.mg "enumerate" = none) (ha : PA X [e] ta) (hs : starEach [e] X.env = [(false, eval e X.env)] := by rfl) :
    PI X (.Tuple elts kk tpos) (.Call (.Name "enumerate" p) [e] [] pos) (iEnumT X.K ta) := by
  refine ⟨fun pins s σ H R I h => ?_⟩
  refine Call_ (ld_blt I hg hm boot_enumerate (PyProof.Rows.callWith_type1 (thn (ha.run pos pins s σ H _ I h) fun us s1 ⟨vs, H1, I1, r1, q1⟩ => ?_) hs rfl))
  obtain ⟨a, xs, ex, hq, q⟩ := q1
  subst ex
  cases r1 with
  | cons r rr =>
    cases rr
    cases r
    obtain ⟨its, rv, p', hz⟩ := I1.tuple hq
    have hal : a < s1.heap.objs.size := by obtain ⟨o, ho, _⟩ := id p'; exact Heap.lt_size ho
    refine call_enumerate_tuple (show s1.heap.IsTuple a its.toArray from p') fun h' he hit hsz hk => wpAny_pyIter_enum he ?_
    have I2 : Inv X pins σ H1 { s1 with heap := h' } := I1.kept (t' := s1.toks) hk
    refine ⟨s1.heap.objs.size + 1, [s1.heap.objs.size + 1, s1.heap.objs.size], _, _, H1, rfl, I2, turn_enumT a (s1.heap.objs.size + 1) s1.heap.objs.size (Nat.ne_of_lt (Nat.lt_succ_of_lt hal)) (Nat.ne_of_lt hal), ⟨⟨.none, he⟩, hit, Nat.succ_ne_self _⟩, fun b hb => ?_, q⟩
    have e' : b = s1.heap.objs.size + 1 ∨ b = s1.heap.objs.size := by simpa using hb
    have hle : s1.heap.objs.size ≤ b := by
      rcases e' with z | z
      · rw [z]; exact Nat.le_add_right _ _
      · rw [z]; exact Nat.le_refl _
    exact I1.fpOk hle (I1.hok.fresh hle)
end L2
namespace Pu
open PySem PySem.Spec PyProof.Rows L2
theorem it_enumT {C : Ctx} {G H : Hp} {fz : Bool} {K : PySem.W.Frag} {a : Addr} {vs : List V} {ds : List D} (s : Stay C fz G H a (.tup vs)) (r : Reps C G vs ds) : ItOk C fz G H (IteT K a) (enumD ds) := by
  have w := walk_enumT (K := K) (a := a) (xs := vs)
  have e : (enumD ds).length = vs.length := by
    unfold enumD
    rw [zipD_len, rgN_len, r.length, Nat.min_self]
  rw [← e] at w
  refine ⟨_, _, w, fun G' H' s1 s2 k => SqT.of (s.at s1 s2 k fun _ z => by cases z), fun i d G' H' x H'' hd s1 s2 y => ?_⟩
  unfold enumD zipD at hd
  rw [List.getElem?_map] at hd
  cases z : ((rgN 0 ds.length).zip ds)[i]? with
  | none =>
    rw [z] at hd
    cases hd
  | some pr =>
    rw [z] at hd
    cases hd
    obtain ⟨z1, z2⟩ := List.getElem?_zip_eq_some.mp z
    refine pair_rep s2 (fun v h => ?_) (fun v h => ?_) y
    · cases h
      unfold rgN at z1
      rw [List.getElem?_map] at z1
      cases e3 : (List.range ds.length)[i]? with
      | none =>
        rw [e3] at z1
        cases z1
      | some k =>
        rw [e3] at z1
        have e4 : k = i := by
          obtain ⟨h1, h2⟩ := List.getElem?_eq_some_iff.mp e3
          rw [List.getElem_range] at h2
          exact h2.symm
        subst e4
        have e5 : pr.1 = D.int (0 + (k : Nat)) := (Option.some.inj z1).symm
        rw [e5, Int.zero_add]
        exact .int _
    · obtain ⟨d, h1, h2⟩ := r.getL h
      rw [z2] at h1
      cases h1
      exact h2.mono s1
/-- enumerate of a tuple -/
def mEnumT (m : EM) : AM := fun env p => (m env p).bind fun d q => match d with
  | .tup xs => .ok (enumD xs) q
  | _ => .bad
section
variable {X : Cx} {C : Ctx} {W : WX} {e : Expr} {m : EM} {pos p : Pos} {fz : Bool}
theorem im_enumT {elts : List Expr} {kk : Nat} {tpos : Pos} (hm : X.mg "enumerate" = none) (h : PE X e (rB C W m)) (hg : Gl X "enumerate" := by rfl) (hs : starEach [e] X.env = [(false, eval e X.env)] := by rfl) :
    PI X (.Tuple elts kk tpos) (.Call (.Name "enumerate" p) [e] [] pos) (rI C W fz (mEnumT m)) := (pi_enumT hg hm (pa_cons h pa_nil hs) hs).of fun σ H R ⟨G, env, p, L, o⟩ => by
  refine ⟨G, env, p, L, o.bind.imp (fun d q z v G1 H1 x1 y1 r1 => ?_) fun _ _ z => z⟩
  cases d with
  | tup xs =>
    obtain ⟨a, vs, rfl, h1, q1⟩ := r1.tup
    exact ⟨_, _, rfl, SqT.of (x1.sub _ _ h1), z _ G1 H1 x1 y1 (it_enumT (.inl h1) q1)⟩
  | _ => exact z.elim
end
end Pu
end

section
set_option maxHeartbeats 2000000
namespace Pu.Zm
open PySem PySem.Spec PyProof.Rows L2
/-! ### a zip is made of a tuple and a list -/
def n1 (h : Heap) (l1 : Addr) : Heap := h.push (itO "tuple_iterator" l1)
def n2 (h : Heap) (l1 l2 : Addr) : Heap := (n1 h l1).push (itO "list_iterator" l2)
def n3 (h : Heap) (l1 l2 : Addr) : Heap := (n2 h l1 l2).push (prO (.ref h.objs.size) (.ref (n1 h l1).objs.size))
def n4 (h : Heap) (l1 l2 : Addr) : Heap := (n3 h l1 l2).push (prO .none .none)
def n5 (h : Heap) (l1 l2 : Addr) : Heap := (n4 h l1 l2).push { cls := .type "zip", data := .fields #[.none, .bool false, .bool false, .ref (n2 h l1 l2).objs.size, .ref (n3 h l1 l2).objs.size] }
theorem new_zipN (l1 l2 : Addr) (xs ys : Array Value) : Meets (Builtin.«zip.__new__» ⟨[.type "zip", .ref l1, .ref l2], []⟩) fun _ R s =>
    s.heap.IsTuple l1 xs ∧ s.heap.IsList l2 ys ∧ R (.ok (.ret (.ref (n4 s.heap l1 l2).objs.size))) { s with heap := n5 s.heap l1 l2 } := .of_wp fun prog w A R s h => by
  obtain ⟨hp, g, d, tk, os⟩ := s
  obtain ⟨il, it, r⟩ := h
  have hsub := sub_zip
  have k1 : Heap.IsTuple (Shared.heap ⟨hp, g, d, tk, os⟩) l1 xs := il
  have k2 : Heap.IsList (Shared.heap ⟨hp.push (itO "tuple_iterator" l1), g, d, tk, os⟩) l2 ys := Heap.IsList.push it _
  unfold itO at k2
  wp_walk using wpAny_pyIter_tuple k1, wpAny_pyIter_list k2
  exact ⟨_, rfl, r⟩
section
variable {prog : Program} {w : World} {A : Around} {E : Value → Shared → Prop} {s : Shared}
theorem push3 {h : Heap} {a : Addr} {o : Obj} (u : Obj) (e : h.get? a = some o) : (h.push u).get? a = some o := Heap.get?_push_of_some _ e
theorem call_tl {l1 l2 : Addr} {xs ys : Array Value} {Q : Value → Shared → Prop} (il : s.heap.IsTuple l1 xs) (it : s.heap.IsList l2 ys)
    (r : ∀ hn, IsZip hn (s.heap.objs.size + 4) (s.heap.objs.size + 2) (s.heap.objs.size + 3) .none → IsPair hn (s.heap.objs.size + 2) (.ref s.heap.objs.size) (.ref (s.heap.objs.size + 1)) → IsPair hn (s.heap.objs.size + 3) .none .none →
      hn.IsTupleIter s.heap.objs.size l1 0 → hn.IsListIter (s.heap.objs.size + 1) l2 0 → (∀ c o, s.heap.get? c = some o → hn.get? c = some o) → Q (.ref (s.heap.objs.size + 4)) { s with heap := hn }) :
    wpAny (model prog w) A (call (.type "zip") [.ref l1, .ref l2]) Q E s := by
  refine callType_new F.called_zip (by decide) (F.typeCall_zip_2 _ _) (F.newCall_zip_2 _ _) (fun u => F.args_object_init_3 u _ _) F.entry_zip_new (new_zipN l1 l2 xs ys) ⟨il, it, ?_⟩
  have z1 : (n1 s.heap l1).objs.size = s.heap.objs.size + 1 := Heap.size_push ..
  have z2 : (n2 s.heap l1 l2).objs.size = s.heap.objs.size + 2 := (Heap.size_push ..).trans (by rw [z1])
  have z3 : (n3 s.heap l1 l2).objs.size = s.heap.objs.size + 3 := (Heap.size_push ..).trans (by rw [z2])
  have z4 : (n4 s.heap l1 l2).objs.size = s.heap.objs.size + 4 := (Heap.size_push ..).trans (by rw [z3])
  have f5 : (n5 s.heap l1 l2).get? (n4 s.heap l1 l2).objs.size = some _ := Heap.get?_push_size _ rfl
  have f4 : (n5 s.heap l1 l2).get? (n3 s.heap l1 l2).objs.size = some (prO .none .none) := push3 _ (Heap.get?_push_size _ rfl)
  have f3 : (n5 s.heap l1 l2).get? (n2 s.heap l1 l2).objs.size = some (prO (.ref s.heap.objs.size) (.ref (n1 s.heap l1).objs.size)) := push3 _ (push3 _ (Heap.get?_push_size _ rfl))
  have f2 : (n5 s.heap l1 l2).get? (n1 s.heap l1).objs.size = some (itO "list_iterator" l2) := push3 _ (push3 _ (push3 _ (Heap.get?_push_size _ rfl)))
  have f1 : (n5 s.heap l1 l2).get? s.heap.objs.size = some (itO "tuple_iterator" l1) := push3 _ (push3 _ (push3 _ (push3 _ (Heap.get?_push_size _ rfl))))
  show _ ∧ _
  rw [z2, z3, z4] at f5
  rw [z1, z2] at f3
  rw [z3] at f4
  rw [z1] at f2
  rw [z4]
  exact ⟨⟨_, f5, rfl⟩, r _ f5 f3 f4 ⟨_, f1, rfl, rfl⟩ ⟨_, f2, rfl, rfl⟩ fun c o e => push3 _ (push3 _ (push3 _ (push3 _ (push3 _ e))))⟩
end
end Pu.Zm
namespace Pu
open PySem PySem.Spec PyProof.Rows L2
def Itn (K : PySem.W.Frag) (a b : Addr) : It where
  go i H := ∃ (us vs : List V) (u v : V), SqT K H a us ∧ SqL K H b vs ∧ us[i]? = some u ∧ vs[i]? = some v
  yld i H r H' := ∃ T u v, r = .ref T ∧ H T = none ∧ H' = upd H T (.tup [u, v]) ∧ (∀ us, SqT K H a us → us[i]? = some u) ∧ ∀ vs, SqL K H b vs → vs[i]? = some v
  stop i H := ∃ us vs : List V, SqT K H a us ∧ SqL K H b vs ∧ (us.length ≤ i ∨ vs.length ≤ i)
/-- the zip's own objects at the i-th turn -/
structure ZSn (zz ti to i1 i2 a b : Addr) (i : Nat) (h : Heap) : Prop where
  z : IsZip h zz ti to .none
  p : IsPair h ti (.ref i1) (.ref i2)
  o : ∃ u v, IsPair h to u v
  l : h.IsTupleIter i1 a i
  t : h.IsListIter i2 b i
theorem turn_n {P : Program} {w : World} {K : PySem.W.Frag} {elts : List Expr} {kk : Nat} {tpos : Pos} {a b zz ti to i1 i2 : Addr} (D : ZipApart zz ti to i1 i2 a b) : Turn P w K (.Tuple elts kk tpos) (Itn K a b) [zz, ti, to, i1, i2] zz (ZSn zz ti to i1 i2 a b) where
  mem := List.mem_cons_self
  obj i h S c hc := by
    obtain ⟨_, _, z3⟩ := S.o
    obtain ⟨oL, l1, _, l3⟩ := S.l
    obtain ⟨oT, t1, _, t3⟩ := S.t
    simp only [List.mem_cons, List.not_mem_nil, or_false] at hc
    rcases hc with rfl | rfl | rfl | rfl | rfl
    · exact ⟨_, S.z, fun v => nofun⟩
    · exact ⟨_, S.p, fun v => nofun⟩
    · exact ⟨_, z3, fun v => nofun⟩
    · exact ⟨_, l1, fun v q => by rw [l3] at q; cases q⟩
    · exact ⟨_, t1, fun v q => by rw [t3] at q; cases q⟩
  keep i h h' S k := by
    obtain ⟨u, v, z3⟩ := S.o
    exact ⟨k zz (by simp) _ S.z, k ti (by simp) _ S.p, ⟨u, v, k to (by simp) _ z3⟩, S.l.at fun o => k i1 (by simp) o, S.t.at fun o => k i2 (by simp) o⟩
  item := by
    intro X e1 e2 e3 _ i pins s σ H E I ff S go
    subst e1 e2 e3
    obtain ⟨u0, v0, z3⟩ := S.o
    obtain ⟨us, vs, u, v, q1, q2, g1, g2⟩ := go
    obtain ⟨L1, r1, il, _⟩ := I.tuple q1
    obtain ⟨L2, r2, it, _⟩ := I.list q2
    obtain ⟨x1, y1, w1⟩ := r1.get g1
    obtain ⟨x2, y2, w2⟩ := r2.get g2
    have zl : zz < s.heap.objs.size := Heap.lt_size S.z
    refine Zm.next_item D (Zm.sideT (vals := L1.toArray) D.l1i1) (Zm.sideL (vals := L2.toArray) D.l2i2) S.z S.p z3 ⟨S.l, il⟩ ⟨S.t, it.isList⟩ (x := x1) (y := x2) (by simpa using y1) (by simpa using y2) fun hn zn on l' t' pn sz keep => ?_
    refine ⟨_, rfl, wpAny_letOwnedTupleGo_zip (s := { s with heap := hn }) zn fun h2 z2 sb => ?_⟩
    have p2 : h2.get? s.heap.objs.size = some { cls := .type "tuple", data := .seq #[x1, x2] } := (sb.2 _ (Nat.ne_of_gt zl)).trans pn
    have ok : ObjOk X.prog X.w (upd H s.heap.objs.size (.tup [u, v])) h2 s.heap.objs.size (.tup [u, v]) := ⟨by show 2 ≤ sizeLine; decide, [x1, x2], .cons w1 (.cons w2 .nil), _, p2, rfl, _, rfl⟩
    have J : Inv X pins σ (upd H s.heap.objs.size (.tup [u, v])) { s with heap := h2 } := I.turnedNew (t' := s.toks) (ch := [zz, ti, to, i1, i2]) (fun c o n e => by
      simp only [List.mem_cons, List.not_mem_nil, or_false, not_or] at n
      obtain ⟨n1, n2, n3, n4, n5⟩ := n
      exact (sb.2 c n1).trans (keep c o n1 n3 n4 n5 e)) ff (Nat.le_refl _) ok
    refine ⟨.ref s.heap.objs.size, _, J, rfl, ⟨_, u, v, rfl, I.hok.fresh (Nat.le_refl _), rfl, fun l hl => by rw [I.tuple_inj hl q1]; exact g1, fun l hl => by rw [I.list_inj hl q2]; exact g2⟩, ⟨z2, ?_, ⟨x1, x2, ?_⟩, ?_, ?_⟩, fun c hcm => ?_⟩
    · exact (sb.2 _ D.TIz).trans (keep _ _ D.TIz D.TITO D.TIi1 D.TIi2 S.p)
    · exact (sb.2 _ D.TOz).trans on
    · exact l'.1.at fun o e => (sb.2 _ D.i1z).trans e
    · exact t'.1.at fun o e => (sb.2 _ D.i2z).trans e
    · have lt : c < s.heap.objs.size := by
        obtain ⟨_, l1, _⟩ := S.l
        obtain ⟨_, t1, _⟩ := S.t
        have hm := hcm
        simp only [List.mem_cons, List.not_mem_nil, or_false] at hm
        rcases hm with rfl | rfl | rfl | rfl | rfl
        · exact zl
        · exact Heap.lt_size S.p
        · exact Heap.lt_size z3
        · exact Heap.lt_size l1
        · exact Heap.lt_size t1
      rw [upd_ne (Nat.ne_of_lt lt)]
      exact (ff c hcm).1
  done := by
    intro X e1 e2 e3 calm i pins s σ H E I ff S st
    subst e1 e2 e3
    obtain ⟨u0, v0, z3⟩ := S.o
    obtain ⟨us, vs, q1, q2, hend⟩ := st
    obtain ⟨L1, r1, il, _⟩ := I.tuple q1
    obtain ⟨L2, r2, it, _⟩ := I.list q2
    have n1 := r1.length
    have n2 := r2.length
    have he : L1.toArray[i]? = none ∨ L2.toArray[i]? = none := hend.imp (fun q => by simp; omega) fun q => by simp; omega
    refine Zm.next_stop (I.ok.hd calm) D (Zm.sideT (vals := L1.toArray) D.l1i1) (Zm.sideL (vals := L2.toArray) D.l2i2) S.z S.p z3 ⟨S.l, il⟩ ⟨S.t, it.isList⟩ he fun hn keep => ⟨rfl, I.turnedL (t' := s.toks) (ch := [zz, ti, to, i1, i2]) (fun c o n e => ?_) ff⟩
    simp only [List.mem_cons, List.not_mem_nil, or_false, not_or] at n
    obtain ⟨m1, m2, m3, m4, m5⟩ := n
    exact keep c o m1 m3 m4 m5 e
  self A i s Q E S h := wpAny_pyIter_zip S.z h
def iZipN (K : PySem.W.Frag) (ta : TA) : TI := fun σ H R => ta σ H fun vs H1 => ∃ a b xs ys, vs = [.ref a, .ref b] ∧ ((SqL K H1 a xs ∧ SqL K H1 b ys ∧ R (Itz K a b) H1) ∨ ((SqT K H1 a xs ∧ SqT K H1 b ys ∧ R (RZ.ItzT K a b) H1) ∨ ((SqL K H1 a xs ∧ SqT K H1 b ys ∧ R (Itm K a b) H1) ∨ (SqT K H1 a xs ∧ SqL K H1 b ys ∧ R (Itn K a b) H1))))
theorem pi_zipN {X : Cx} {e e2 : Expr} {ta : TA} {p pos tpos : Pos} {elts : List Expr} {kk : Nat} (hg : Gl X "zip") (hm : X.mg "zip" = none) (ha : PA X [e, e2] ta)
    (hs : starEach [e, e2] X.env = (false, eval e X.env) :: starEach [e2] X.env := by rfl) (hpl : (backTo pos (starEach [e2] X.env)).any (·.1) = false := by rfl) : PI X (.Tuple elts kk tpos) (.Call (.Name "zip" p) [e, e2] [] pos) (iZipN X.K ta) := by
  refine ⟨fun pins s σ H R I h => Call_ (ld_blt I hg hm PyProof.Rows.boot_zip (PyProof.Rows.callWith_type1 (thn (ha.run pos pins s σ H _ I h) fun us s1 ⟨vs, H1, I1, r1, a, b, xs, ys, ex, q1⟩ => ?_) hs hpl))⟩
  subst ex
  obtain ⟨u1, u2, rfl, rfl, rfl⟩ : ∃ u1 u2, us = [u1, u2] ∧ u1 = Value.ref a ∧ u2 = Value.ref b := by
    cases r1 with
    | cons c1 t1 =>
      cases t1 with
      | cons c2 t2 =>
        cases t2
        exact ⟨_, _, rfl, c1, c2⟩
  let n := s1.heap.objs.size
  have new : ∀ c ∈ [n + 4, n + 2, n + 3, n, n + 1], FpOk X pins H1 c := fun c hc => by
    have le : n ≤ c := by
      simp only [List.mem_cons, List.not_mem_nil, or_false] at hc
      omega
    exact I1.fpOk le (I1.hok.fresh le)
  rcases q1 with ⟨q1, q2, q⟩ | ⟨q1, q2, q⟩ | ⟨q1, q2, q⟩ | ⟨q1, q2, q⟩
  · obtain ⟨L1, _, p1, _⟩ := I1.list q1
    obtain ⟨L2, _, p2, _⟩ := I1.list q2
    refine call_zip_2 p1.isList p2.isList fun hn z1 z2 z3 z4 z5 _ keep => wpAny_pyIter_zip z1 ?_
    exact ⟨n + 4, [n + 4, n + 2, n + 3, n, n + 1], _, _, H1, rfl, I1.kept (t' := s1.toks) keep, turn_zip (PySem.W.ktu_apart n a b p1.lt p2.lt), ⟨z1, z2, ⟨_, _, z3⟩, z4, z5⟩, new, q⟩
  · obtain ⟨L1, _, p1, _⟩ := I1.tuple q1
    obtain ⟨L2, _, p2, _⟩ := I1.tuple q2
    have ⟨_, g1, _⟩ := p1
    have ⟨_, g2, _⟩ := p2
    refine RZ.call_zipT (xs := L1.toArray) (ys := L2.toArray) p1 p2 fun hn z1 z2 z3 z4 z5 _ keep => wpAny_pyIter_zip z1 ?_
    exact ⟨n + 4, [n + 4, n + 2, n + 3, n, n + 1], _, _, H1, rfl, I1.kept (t' := s1.toks) keep, RZ.turn_zipT (PySem.W.ktu_apart n a b (Heap.lt_size g1) (Heap.lt_size g2)), ⟨z1, z2, ⟨_, _, z3⟩, z4, z5⟩, new, q⟩
  · obtain ⟨L1, _, p1, _⟩ := I1.list q1
    obtain ⟨L2, _, p2, _⟩ := I1.tuple q2
    have ⟨_, g2, _⟩ := p2
    refine Zm.call_lt (xs := L1.toArray) (ys := L2.toArray) p1.isList p2 fun hn z1 z2 z3 z4 z5 keep => wpAny_pyIter_zip z1 ?_
    exact ⟨n + 4, [n + 4, n + 2, n + 3, n, n + 1], _, _, H1, rfl, I1.kept (t' := s1.toks) keep, turn_m (PySem.W.ktu_apart n a b p1.lt (Heap.lt_size g2)), ⟨z1, z2, ⟨_, _, z3⟩, z4, z5⟩, new, q⟩
  · obtain ⟨L1, _, p1, _⟩ := I1.tuple q1
    obtain ⟨L2, _, p2, _⟩ := I1.list q2
    have ⟨_, g1, _⟩ := p1
    refine Zm.call_tl (xs := L1.toArray) (ys := L2.toArray) p1 p2.isList fun hn z1 z2 z3 z4 z5 keep => wpAny_pyIter_zip z1 ?_
    exact ⟨n + 4, [n + 4, n + 2, n + 3, n, n + 1], _, _, H1, rfl, I1.kept (t' := s1.toks) keep, turn_n (PySem.W.ktu_apart n a b (Heap.lt_size g1) p2.lt), ⟨z1, z2, ⟨_, _, z3⟩, z4, z5⟩, new, q⟩
/-! #### the mirror -/
section
variable {C : Ctx} {K : PySem.W.Frag} {fz : Bool} {G H : Hp} {a b : Addr} {vs ws : List V} {ds es : List D}
theorem walk_n {n : Nat} {xs ys : List V} (hn : n = min xs.length ys.length) : Walk (Itn K a b) n (fun H => SqT K H a xs ∧ SqL K H b ys) (YPair (fun i => xs[i]?) (fun i => ys[i]?)) := by
  subst hn
  refine ⟨fun i H hi q => ?_, fun H q => ⟨xs, ys, q.1, q.2, by omega⟩, fun i H v H' hi q y => ?_⟩
  · have c1 : i < xs.length := by omega
    have c2 : i < ys.length := by omega
    exact ⟨xs, ys, xs[i], ys[i], q.1, q.2, List.getElem?_eq_getElem c1, List.getElem?_eq_getElem c2⟩
  · obtain ⟨T, x, z, y1, y2, y3, y4, y5⟩ := y
    exact ⟨T, x, z, y1, y2, y3, y4 xs q.1, y5 ys q.2⟩
theorem it_zipN (s : Stay C fz G H a (.tup vs)) (t : Stay C fz G H b (.lst ws)) (r : Reps C G vs ds) (q : Reps C G ws es) : ItOk C fz G H (Itn K a b) (zipD ds es) := by
  have w := walk_n (K := K) (a := a) (b := b) (xs := vs) (ys := ws) (n := (zipD ds es).length) (by rw [zipD_len, r.length, q.length])
  refine ⟨_, _, w, fun G' H' s1 s2 k => ⟨SqT.of (s.at s1 s2 k fun _ z => by cases z), SqL.of (t.at s1 s2 k fun _ z => by cases z)⟩, fun i d G' H' x H'' hd s1 s2 y => ?_⟩
  obtain ⟨d1, d2, h1, h2, rfl⟩ := zip_at hd
  exact pair_rep s2 (rep_at r s1 h1) (rep_at q s1 h2) y
end
/-- zip of lists and tuples -/
def kZipN : List D → Option (List D)
  | [.lst xs, .lst ys] => some (zipD xs ys)
  | [.tup xs, .tup ys] => some (zipD xs ys)
  | [.lst xs, .tup ys] => some (zipD xs ys)
  | [.tup xs, .lst ys] => some (zipD xs ys)
  | _ => none
def mZipN (a : AM) : AM := fun env p => (a env p).bind fun ds q => match kZipN ds with
  | some z => .ok z q
  | none => .bad
section
variable {X : Cx} {C : Ctx} {W : WX} {fz : Bool} {e e2 : Expr} {a : AM} {p pos : Pos}
theorem im_zipN {elts : List Expr} {kk : Nat} {tpos : Pos} (hK : C.K = X.K) (hm : X.mg "zip" = none) (h : PA X [e, e2] (rA C W a)) (hg : Gl X "zip" := by rfl) (hs : starEach [e, e2] X.env = (false, eval e X.env) :: starEach [e2] X.env := by rfl) (hpl : (backTo pos (starEach [e2] X.env)).any (·.1) = false := by rfl) :
    PI X (.Tuple elts kk tpos) (.Call (.Name "zip" p) [e, e2] [] pos) (rI C W fz (mZipN a)) := (pi_zipN hg hm h hs hpl).of fun σ H R ⟨G, env, p, L, o⟩ => by
  refine ⟨G, env, p, L, o.bind.imp (fun ds q z vs G1 H1 x1 y1 r1 => ?_) fun _ _ z => z⟩
  unfold kZipN at z
  split at z
  · rename_i u hu
    split at hu
    · cases hu
      obtain ⟨v1, v2, rfl, c1, c2⟩ := r1.pair
      cases c1 with
      | lst h1 q1 =>
        cases c2 with
        | lst h2 q2 => exact ⟨_, _, _, _, rfl, .inl ⟨SqL.of (x1.sub _ _ h1), SqL.of (x1.sub _ _ h2), z _ G1 H1 x1 y1 (it_zipL (.inl h1) (.inl h2) q1 q2)⟩⟩
    · cases hu
      obtain ⟨v1, v2, rfl, c1, c2⟩ := r1.pair
      cases c1 with
      | tup h1 q1 =>
        cases c2 with
        | tup h2 q2 => exact ⟨_, _, _, _, rfl, .inr (.inl ⟨SqT.of (x1.sub _ _ h1), SqT.of (x1.sub _ _ h2), z _ G1 H1 x1 y1 (it_zipT (.inl h1) (.inl h2) q1 q2)⟩)⟩
    · cases hu
      obtain ⟨v1, v2, rfl, c1, c2⟩ := r1.pair
      cases c1 with
      | lst h1 q1 =>
        cases c2 with
        | tup h2 q2 => exact ⟨_, _, _, _, rfl, .inr (.inr (.inl ⟨SqL.of (x1.sub _ _ h1), SqT.of (x1.sub _ _ h2), z _ G1 H1 x1 y1 (it_zipM (.inl h1) (.inl h2) q1 q2)⟩))⟩
    · cases hu
      obtain ⟨v1, v2, rfl, c1, c2⟩ := r1.pair
      cases c1 with
      | tup h1 q1 =>
        cases c2 with
        | lst h2 q2 => exact ⟨_, _, _, _, rfl, .inr (.inr (.inr ⟨SqT.of (x1.sub _ _ h1), SqL.of (x1.sub _ _ h2), z _ G1 H1 x1 y1 (it_zipN (.inl h1) (.inl h2) q1 q2)⟩))⟩
    · cases hu
  · exact z.elim
end
end Pu
end

section
set_option maxHeartbeats 0
namespace Pu
namespace Lw
open PySem PySem.Spec PyProof.Rows L2
def top (i : Nat) : Stmt := PySem.Challenge.pw_flowwebs_k30_whole_fractions_of_lines.main.body.getD i (.Pass ⟨0, 0, 0, 0⟩)
abbrev s0 : Stmt := top 20
abbrev s1 : Stmt := top 22
abbrev s2 : Stmt := top 23
abbrev s3 : Stmt := top 27
abbrev s4 : Stmt := top 28
abbrev s5 : Stmt := top 29
abbrev s6 : Stmt := top 30
abbrev s7 : Stmt := top 31
abbrev s8 : Stmt := top 32
abbrev s9 : Stmt := top 34
abbrev s10 : Stmt := top 35
abbrev s11 : Stmt := top 36
abbrev s12 : Stmt := top 37
abbrev s13 : Stmt := top 38
abbrev s14 : Stmt := top 39
abbrev s15 : Stmt := top 40
abbrev s16 : Stmt := top 41
abbrev s17 : Stmt := top 42
abbrev s18 : Stmt := top 43
abbrev s19 : Stmt := top 44
abbrev s20 : Stmt := top 45
abbrev s21 : Stmt := top 46
abbrev s22 : Stmt := top 47
abbrev s23 : Stmt := top 48
abbrev s24 : Stmt := top 49
abbrev s25 : Stmt := top 50
abbrev s26 : Stmt := top 51
abbrev s27 : Stmt := top 52
abbrev s28 : Stmt := top 53
abbrev s29 : Stmt := top 54
abbrev s30 : Stmt := inClass (top 3) 0
abbrev s31 : Stmt := inClass (top 4) 0
abbrev s32 : Stmt := inClass (top 5) 0
abbrev s33 : Stmt := inClass (top 6) 0
abbrev s34 : Stmt := inClass (top 7) 0
abbrev s35 : Stmt := inClass (top 8) 0
abbrev s36 : Stmt := inClass (top 9) 0
abbrev s37 : Stmt := inClass (top 10) 0
abbrev s38 : Stmt := inClass (top 11) 0
abbrev s39 : Stmt := inClass (top 12) 0
abbrev s40 : Stmt := inClass (top 13) 0
abbrev s41 : Stmt := inClass (top 14) 0
abbrev s42 : Stmt := inClass (top 15) 0
abbrev s43 : Stmt := inClass (top 16) 0
def d0 : He.DefD := ⟨("is_integer", none), "is_integer", "is_integer", defArgs s0, defBody s0, defScope s0, [], []⟩
def d1 : He.DefD := ⟨("is_list", none), "is_list", "is_list", defArgs s1, defBody s1, defScope s1, [], []⟩
def d2 : He.DefD := ⟨("is_indexes", none), "is_indexes", "is_indexes", defArgs s2, defBody s2, defScope s2, [], []⟩
def d3 : He.DefD := ⟨("need_line", none), "need_line", "need_line", defArgs s3, defBody s3, defScope s3, [], []⟩
def d4 : He.DefD := ⟨("fraction_of", none), "fraction_of", "fraction_of", defArgs s4, defBody s4, defScope s4, [], []⟩
def d5 : He.DefD := ⟨("line_fraction", none), "line_fraction", "line_fraction", defArgs s5, defBody s5, defScope s5, [], []⟩
def d6 : He.DefD := ⟨("need_fraction", none), "need_fraction", "need_fraction", defArgs s6, defBody s6, defScope s6, [], []⟩
def d7 : He.DefD := ⟨("row_of_fraction", none), "row_of_fraction", "row_of_fraction", defArgs s7, defBody s7, defScope s7, [], []⟩
def d8 : He.DefD := ⟨("line_table", none), "line_table", "line_table", defArgs s8, defBody s8, defScope s8, [], []⟩
def d9 : He.DefD := ⟨("_law_pen", none), "_law_pen", "_law_pen", defArgs s9, defBody s9, defScope s9, [], []⟩
def d10 : He.DefD := ⟨("_law_draw", none), "_law_draw", "_law_draw", defArgs s10, defBody s10, defScope s10, [], []⟩
def d11 : He.DefD := ⟨("_law_pick", none), "_law_pick", "_law_pick", defArgs s11, defBody s11, defScope s11, [], []⟩
def d12 : He.DefD := ⟨("_law_is", none), "_law_is", "_law_is", defArgs s12, defBody s12, defScope s12, [], []⟩
def d13 : He.DefD := ⟨("_law_divisor", none), "_law_divisor", "_law_divisor", defArgs s13, defBody s13, defScope s13, [], []⟩
def d14 : He.DefD := ⟨("_law_low", none), "_law_low", "_law_low", defArgs s14, defBody s14, defScope s14, [], []⟩
def d15 : He.DefD := ⟨("_law_pair", none), "_law_pair", "_law_pair", defArgs s15, defBody s15, defScope s15, [], []⟩
def d16 : He.DefD := ⟨("_law_plus", none), "_law_plus", "_law_plus", defArgs s16, defBody s16, defScope s16, [], []⟩
def d17 : He.DefD := ⟨("_law_opposite", none), "_law_opposite", "_law_opposite", defArgs s17, defBody s17, defScope s17, [], []⟩
def d18 : He.DefD := ⟨("_law_minus", none), "_law_minus", "_law_minus", defArgs s18, defBody s18, defScope s18, [], []⟩
def d19 : He.DefD := ⟨("_law_times", none), "_law_times", "_law_times", defArgs s19, defBody s19, defScope s19, [], []⟩
def d20 : He.DefD := ⟨("_law_over", none), "_law_over", "_law_over", defArgs s20, defBody s20, defScope s20, [], []⟩
def d21 : He.DefD := ⟨("_law_fault", none), "_law_fault", "_law_fault", defArgs s21, defBody s21, defScope s21, [], []⟩
def d22 : He.DefD := ⟨("_law_kinds", none), "_law_kinds", "_law_kinds", defArgs s22, defBody s22, defScope s22, [], []⟩
def d23 : He.DefD := ⟨("_law_more_kinds", none), "_law_more_kinds", "_law_more_kinds", defArgs s23, defBody s23, defScope s23, [], []⟩
def d24 : He.DefD := ⟨("_law_worth", none), "_law_worth", "_law_worth", defArgs s24, defBody s24, defScope s24, [], []⟩
def d25 : He.DefD := ⟨("_law_whole_worth", none), "_law_whole_worth", "_law_whole_worth", defArgs s25, defBody s25, defScope s25, [], []⟩
def d26 : He.DefD := ⟨("_law_fraction", none), "_law_fraction", "_law_fraction", defArgs s26, defBody s26, defScope s26, [], []⟩
def d27 : He.DefD := ⟨("_law_row_of", none), "_law_row_of", "_law_row_of", defArgs s27, defBody s27, defScope s27, [], []⟩
def d28 : He.DefD := ⟨("_law_asked", none), "_law_asked", "_law_asked", defArgs s28, defBody s28, defScope s28, [], []⟩
def d29 : He.DefD := ⟨("law", none), "law", "law", defArgs s29, defBody s29, defScope s29, [], []⟩
def d30 : He.DefD := ⟨("BadNumber", some "__init__"), "__init__", "BadNumber.__init__", defArgs s30, defBody s30, defScope s30, [], []⟩
def d31 : He.DefD := ⟨("BadRow", some "__init__"), "__init__", "BadRow.__init__", defArgs s31, defBody s31, defScope s31, [], []⟩
def d32 : He.DefD := ⟨("BadTable", some "__init__"), "__init__", "BadTable.__init__", defArgs s32, defBody s32, defScope s32, [], []⟩
def d33 : He.DefD := ⟨("BadWeb", some "__init__"), "__init__", "BadWeb.__init__", defArgs s33, defBody s33, defScope s33, [], []⟩
def d34 : He.DefD := ⟨("BadLot", some "__init__"), "__init__", "BadLot.__init__", defArgs s34, defBody s34, defScope s34, [], []⟩
def d35 : He.DefD := ⟨("BadName", some "__init__"), "__init__", "BadName.__init__", defArgs s35, defBody s35, defScope s35, [], []⟩
def d36 : He.DefD := ⟨("BadText", some "__init__"), "__init__", "BadText.__init__", defArgs s36, defBody s36, defScope s36, [], []⟩
def d37 : He.DefD := ⟨("NoPlace", some "__init__"), "__init__", "NoPlace.__init__", defArgs s37, defBody s37, defScope s37, [], []⟩
def d38 : He.DefD := ⟨("NoName", some "__init__"), "__init__", "NoName.__init__", defArgs s38, defBody s38, defScope s38, [], []⟩
def d39 : He.DefD := ⟨("TakenName", some "__init__"), "__init__", "TakenName.__init__", defArgs s39, defBody s39, defScope s39, [], []⟩
def d40 : He.DefD := ⟨("Unlike", some "__init__"), "__init__", "Unlike.__init__", defArgs s40, defBody s40, defScope s40, [], []⟩
def d41 : He.DefD := ⟨("NotThere", some "__init__"), "__init__", "NotThere.__init__", defArgs s41, defBody s41, defScope s41, [], []⟩
def d42 : He.DefD := ⟨("TooMany", some "__init__"), "__init__", "TooMany.__init__", defArgs s42, defBody s42, defScope s42, [], []⟩
def d43 : He.DefD := ⟨("NotKept", some "__init__"), "__init__", "NotKept.__init__", defArgs s43, defBody s43, defScope s43, [], []⟩
def fn : List He.DefD := [d0, d1, d2, d3, d4, d5, d6, d7, d8, d9, d10, d11, d12, d13, d14, d15, d16, d17, d18, d19, d20, d21, d22, d23, d24, d25, d26, d27, d28, d29, d30, d31, d32, d33, d34, d35, d36, d37, d38, d39, d40, d41, d42, d43]
def fa : List He.Fa := [.glo "is_integer", .glo "is_list", .glo "is_indexes", .glo "need_line", .glo "fraction_of", .glo "line_fraction", .glo "need_fraction", .glo "row_of_fraction", .glo "line_table", .glo "_law_pen", .glo "_law_draw", .glo "_law_pick", .glo "_law_is", .glo "_law_divisor", .glo "_law_low", .glo "_law_pair", .glo "_law_plus", .glo "_law_opposite", .glo "_law_minus", .glo "_law_times", .glo "_law_over", .glo "_law_fault", .glo "_law_kinds", .glo "_law_more_kinds", .glo "_law_worth", .glo "_law_whole_worth", .glo "_law_fraction", .glo "_law_row_of", .glo "_law_asked", .glo "law", .glo "WebError", .glo "BadNumber", .glo "BadRow", .glo "BadTable", .glo "BadWeb", .glo "BadLot", .glo "BadName", .glo "BadText", .glo "NoPlace", .glo "NoName", .glo "TakenName", .glo "Unlike", .glo "NotThere", .glo "TooMany", .glo "NotKept", .glo "NothingToUndo", .glo "NothingToRedo", .int "MOST_ROW" 400, .int "MOST_TOP" 1000000000000000000000000000000000000000000000000000000000000, .exc "NothingToUndo", .exc "NothingToRedo", .free "ValueError", .free "abs", .free "all", .free "bool", .free "int", .free "isinstance", .free "len", .free "list", .free "range", .free "repr", .free "str", .free "tuple", .free "zip"]
def exL : List Str := ["BadNumber", "BadRow", "BadTable", "BadWeb", "BadLot", "BadName", "BadText", "NoPlace", "NoName", "TakenName", "Unlike", "NotThere", "TooMany", "NotKept", "NothingToUndo", "NothingToRedo"]
def objL : List Str := []
def clL : List Str := ["WebError", "BadNumber", "BadRow", "BadTable", "BadWeb", "BadLot", "BadName", "BadText", "NoPlace", "NoName", "TakenName", "Unlike", "NotThere", "TooMany", "NotKept", "NothingToUndo", "NothingToRedo"]
def subB (c d : Str) : Bool := c = d || (d = "WebError" && exL.contains c)
def isTB (c : Str) (t : String) : Bool := t = "ValueError" && (c = "WebError" || exL.contains c)
def tyL : List String := ["ValueError", "int", "bool", "str", "list", "tuple"]
abbrev ask : Ask := askT clL tyL subB isTB
def exDs : List (Str × List Str) := [("BadNumber", ["what", "number"]), ("BadRow", ["what", "row"]), ("BadTable", ["what"]), ("BadWeb", ["what"]), ("BadLot", ["what", "lot"]), ("BadName", ["name"]), ("BadText", ["line", "word"]), ("NoPlace", ["what", "index"]), ("NoName", ["name"]), ("TakenName", ["name"]), ("Unlike", ["what"]), ("NotThere", ["paper"]), ("TooMany", ["what", "many", "limit"]), ("NotKept", ["promise", "witness"])]
def objF : List (Str × List Str) := []
def mkL : List Str := []
def eqL : List Str := []
def lenL : List Str := []
def ltL : List (Str × LamD) := []
def tfL : List (He.Defn × Str) := [(("law", none), "law.<locals>.<lambda>")]
theorem mem_law : ((("law", none), "law.<locals>.<lambda>") : He.Defn × Str) ∈ tfL := by decide +kernel
structure TTl (C : Ctx) (base : Heap) : Prop extends TT tfL C base where
  lt : C.lt = ltL
theorem TTl.pen {C : Ctx} {base : Heap} (h : TTl C base) (a l : Addr) : TTl (C.withPen a l) base := ⟨h.toTT.pen a l, h.lt⟩
def tfD : List He.Defn := [("law", none)]
def impB (K : PySem.W.Frag) : Bool := He.eqO (PySem.W.nsIn K mainGlobals "gcd") (some (some (.builtin "math.gcd")))
def exO (K : PySem.W.Frag) : Bool := (objF.all fun p => clsB K (He.ga K p.1) && p.2.all fun f => He.eqO (PySem.W.findIn K (.ref (He.ga K p.1)) f) (some none)) && ((mkL.all fun c => mkB K (He.ga K c)) && ((eqL.all fun c => metB K (He.ga K c) "__eq__" && neB K (He.ga K c)) && ((lenL.all fun c => metB K (He.ga K c) "__len__") && (ttB tfL K && impB K))))
def exF : List Str := ["index", "limit", "line", "lot", "many", "name", "number", "paper", "promise", "row", "what", "witness", "word"]
def ex (K : PySem.W.Frag) : Bool := (exDs.all fun p => exB K p.1 p.2) && ((exL.all fun c => exIsB K (He.ga K c)) && ((exL.all fun c => exF.all fun f => He.eqO (PySem.W.findIn K (.ref (He.ga K c)) f) (some none)) && ((exL.all fun c => decide (PySem.W.exmOne K (.ref (He.ga K c)) (.ref (He.ga K "WebError")) = some true)) && (askB K clL tyL subB isTB && (decide (K.lookup sysModules = none) && exO K)))))
def as0 : List Addr := [3, 6, 4, 52, 72, 91, 110, 129, 148, 167, 186, 205, 224, 243, 262, 281, 300, 319, 331, 343, 352, 359, 364, 369, 376]
def as1 : List Addr := [383, 390, 397, 402, 409, 416, 423, 428, 435, 442, 449, 456, 463, 470, 477, 484, 491, 498, 505, 510, 515, 522, 529, 534, 539]
def as2 : List Addr := [0, 51, 71, 90, 109, 128, 147, 166, 185, 204, 223, 242, 261, 280, 299, 318, 330, 342, 351, 358, 363, 368, 375, 382, 389]
def as3 : List Addr := [396, 401, 408, 415, 422, 427, 434, 441, 448, 455, 462, 469, 476, 483, 490, 497, 504, 509, 514, 521, 528, 533, 538, 50, 53]
def as4 : List Addr := [69, 70, 88, 89, 107, 108, 126, 127, 145, 146, 164, 165, 183, 184, 202, 203, 221, 222, 240, 241, 259, 260, 278, 279, 297]
def as5 : List Addr := [298, 316, 317, 329, 341, 346, 347, 348, 349, 350, 353, 354, 355, 356, 357, 360, 361, 362, 365, 366, 367, 370, 371, 372, 373]
def as6 : List Addr := [374, 377, 378, 379, 380, 381, 384, 385, 386, 387, 388, 391, 392, 393, 394, 395, 398, 399, 400, 403, 404, 405, 406, 407, 410]
def as7 : List Addr := [411, 412, 413, 414, 417, 418, 419, 420, 421, 424, 425, 426, 429, 430, 431, 432, 433, 436, 437, 438, 439, 440, 443, 444, 445]
def as8 : List Addr := [446, 447, 450, 451, 452, 453, 454, 457, 458, 459, 460, 461, 464, 465, 466, 467, 468, 471, 472, 473, 474, 475, 478, 479, 480]
def as9 : List Addr := [481, 482, 485, 486, 487, 488, 489, 492, 493, 494, 495, 496, 499, 500, 501, 502, 503, 506, 507, 508, 511, 512, 513, 516, 517]
def as10 : List Addr := [518, 519, 520, 523, 524, 525, 526, 527, 530, 531, 532, 535, 536, 537, 68, 87, 106, 125, 144, 163, 182, 201, 220, 239, 258]
def as11 : List Addr := [277, 296, 315, 63, 64, 65, 66, 67, 82, 83, 84, 85, 86, 101, 102, 103, 104, 105, 120, 121, 122, 123, 124, 139, 140]
def as12 : List Addr := [141, 142, 143, 158, 159, 160, 161, 162, 177, 178, 179, 180, 181, 196, 197, 198, 199, 200, 215, 216, 217, 218, 219, 234, 235]
def as13 : List Addr := [236, 237, 238, 253, 254, 255, 256, 257, 272, 273, 274, 275, 276, 291, 292, 293, 294, 295, 310, 311, 312, 313, 314]
def asL : List Addr := as0 ++ (as1 ++ (as2 ++ (as3 ++ (as4 ++ (as5 ++ (as6 ++ (as7 ++ (as8 ++ (as9 ++ (as10 ++ (as11 ++ (as12 ++ (as13)))))))))))))
abbrev R : PySem.W.OpenRow := PySem.W.OpenLaw.row PySem.Challenge.rw_flowwebs_k30_whole_fractions_of_lines
abbrev hk : PySem.W.Hook := hookM (hookL asL fa fn tfD ex)
def ob (s : PySem.W.SharedT) : He.AlX × Bool := (obsL asL fa fn tfD ex (HandSHeadRun.getT s), modsB (HandSHeadRun.getT s))
theorem ob_eq (s : PySem.W.SharedT) : ob s = hk.obs s.abs := by
  have e : HandSHeadRun.getT s = s.abs.heap.get? := funext (HandSHeadRun.getT_eq s)
  unfold ob
  rw [e]
  rfl
abbrev FX (K : PySem.W.Frag) (mg : Str → Option Value) : Prop := Fx fa fn ex K mg
def nm0 : List Str := ["is_integer", "is_list", "is_indexes", "need_line", "fraction_of", "line_fraction", "need_fraction", "row_of_fraction", "line_table", "_law_pen", "_law_draw", "_law_pick", "_law_is", "_law_divisor", "_law_low", "_law_pair", "_law_plus", "_law_opposite", "_law_minus", "_law_times", "_law_over", "_law_fault", "_law_kinds", "_law_more_kinds", "_law_worth"]
def nm1 : List Str := ["_law_whole_worth", "_law_fraction", "_law_row_of", "_law_asked", "WebError", "BadNumber", "BadRow", "BadTable", "BadWeb", "BadLot", "BadName", "BadText", "NoPlace", "NoName", "TakenName", "Unlike", "NotThere", "TooMany", "NotKept", "NothingToUndo", "NothingToRedo", "MOST_ROW", "MOST_TOP"]
def nms : List Str := nm0 ++ nm1
section
variable {C : Ctx} {P : Program} {w : World} {base : Heap}
theorem ex1 (h : FX C.K C.mg) : (∀ p ∈ exDs, exB C.K p.1 p.2 = true) ∧ (∀ c ∈ exL, exIsB C.K (He.ga C.K c) = true) ∧ (∀ c ∈ exL, ∀ f ∈ exF, PySem.W.findIn C.K (.ref (He.ga C.K c)) f = some none) ∧ (∀ c ∈ exL, PySem.W.exmOne C.K (.ref (He.ga C.K c)) (.ref (He.ga C.K "WebError")) = some true) ∧ askB C.K clL tyL subB isTB = true ∧ C.K.lookup sysModules = none ∧ exO C.K = true := by
  have e := h.more
  unfold ex at e
  rw [Bool.and_eq_true, Bool.and_eq_true, Bool.and_eq_true, Bool.and_eq_true, Bool.and_eq_true, Bool.and_eq_true, List.all_eq_true, List.all_eq_true, List.all_eq_true, List.all_eq_true, decide_eq_true_eq] at e
  obtain ⟨e1, e2, e3, e4, e5, e6, e7⟩ := e
  exact ⟨e1, e2, fun c hc f hf => He.eqO_ok (List.all_eq_true.mp (e3 c hc) f hf), fun c hc => of_decide_eq_true (e4 c hc), e5, e6, e7⟩
theorem exO_ok (h : FX C.K C.mg) : (∀ p ∈ objF, InsC C.K (He.ga C.K p.1) ∧ ∀ f ∈ p.2, PySem.W.findIn C.K (.ref (He.ga C.K p.1)) f = some none) ∧ (∀ c ∈ mkL, mkB C.K (He.ga C.K c) = true) ∧ (∀ c ∈ eqL, metB C.K (He.ga C.K c) "__eq__" = true ∧ neB C.K (He.ga C.K c) = true) ∧ (∀ c ∈ lenL, metB C.K (He.ga C.K c) "__len__" = true) ∧ ttB tfL C.K = true ∧ impB C.K = true := by
  have e := (ex1 h).2.2.2.2.2.2
  unfold exO at e
  rw [Bool.and_eq_true, Bool.and_eq_true, Bool.and_eq_true, Bool.and_eq_true, Bool.and_eq_true, List.all_eq_true, List.all_eq_true, List.all_eq_true, List.all_eq_true] at e
  obtain ⟨e1, e2, e3, e4, e5⟩ := e
  refine ⟨fun p hp => ?_, e2, fun c hc => by have := e3 c hc; rwa [Bool.and_eq_true] at this, e4, e5⟩
  have q := e1 p hp
  rw [Bool.and_eq_true, List.all_eq_true] at q
  exact ⟨clsB_ok q.1, fun f hf => He.eqO_ok (q.2 f hf)⟩
theorem cl_glo (h : FX C.K C.mg) : ∀ c ∈ clL, C.mg c = some (.ref (He.ga C.K c)) := by
  intro c hc
  unfold clL at hc
  simp only [List.mem_cons, List.not_mem_nil, or_false] at hc
  rcases hc with rfl | rfl | rfl | rfl | rfl | rfl | rfl | rfl | rfl | rfl | rfl | rfl | rfl | rfl | rfl | rfl | rfl
  · exact (h.glo 30)
  · exact (h.glo 31)
  · exact (h.glo 32)
  · exact (h.glo 33)
  · exact (h.glo 34)
  · exact (h.glo 35)
  · exact (h.glo 36)
  · exact (h.glo 37)
  · exact (h.glo 38)
  · exact (h.glo 39)
  · exact (h.glo 40)
  · exact (h.glo 41)
  · exact (h.glo 42)
  · exact (h.glo 43)
  · exact (h.glo 44)
  · exact (h.glo 45)
  · exact (h.glo 46)
theorem ex_cl : ∀ c ∈ exL, c ∈ clL := by decide +kernel
theorem ask_ok (h : FX C.K C.mg) : AskOk C ask := askT_ok (ex1 h).2.2.2.2.1 (cl_glo h)
theorem obj_cl : ∀ c ∈ objL, c ∈ clL := by decide +kernel
theorem obj_in : ∀ c ∈ objL, ∃ p ∈ objF, p.1 = c := by decide +kernel
theorem imp_gcd (h : FX C.K C.mg) : C.mg "gcd" = some (.builtin "math.gcd") := by
  obtain ⟨hp, X, G⟩ := h.hp
  exact PySem.W.mg_of X G (He.eqO_ok (exO_ok h).2.2.2.2.2)
theorem clss_ok (h : FX C.K C.mg) : Clss C objL exL := ⟨(fun c hc cA e => by
  have e2 := cl_glo h c (obj_cl c hc)
  rw [e] at e2
  cases e2
  obtain ⟨p, hp, rfl⟩ := obj_in c hc
  exact ((exO_ok h).1 p hp).1), fun c hc cA e => by
  have e2 := cl_glo h c (ex_cl c hc)
  rw [e] at e2
  cases e2
  exact exIsB_ok ((ex1 h).2.1 c hc)⟩
theorem noat_index (h : FX C.K C.mg) : ∀ c ∈ exL, ∀ cA, C.mg c = some (.ref cA) → PySem.W.findIn C.K (.ref cA) "index" = some none := fun c hc cA e => by
  have e2 := cl_glo h c (ex_cl c hc)
  rw [e] at e2
  cases e2
  exact (ex1 h).2.2.1 c hc "index" (by decide +kernel)
theorem noat_limit (h : FX C.K C.mg) : ∀ c ∈ exL, ∀ cA, C.mg c = some (.ref cA) → PySem.W.findIn C.K (.ref cA) "limit" = some none := fun c hc cA e => by
  have e2 := cl_glo h c (ex_cl c hc)
  rw [e] at e2
  cases e2
  exact (ex1 h).2.2.1 c hc "limit" (by decide +kernel)
theorem noat_line (h : FX C.K C.mg) : ∀ c ∈ exL, ∀ cA, C.mg c = some (.ref cA) → PySem.W.findIn C.K (.ref cA) "line" = some none := fun c hc cA e => by
  have e2 := cl_glo h c (ex_cl c hc)
  rw [e] at e2
  cases e2
  exact (ex1 h).2.2.1 c hc "line" (by decide +kernel)
theorem noat_lot (h : FX C.K C.mg) : ∀ c ∈ exL, ∀ cA, C.mg c = some (.ref cA) → PySem.W.findIn C.K (.ref cA) "lot" = some none := fun c hc cA e => by
  have e2 := cl_glo h c (ex_cl c hc)
  rw [e] at e2
  cases e2
  exact (ex1 h).2.2.1 c hc "lot" (by decide +kernel)
theorem noat_many (h : FX C.K C.mg) : ∀ c ∈ exL, ∀ cA, C.mg c = some (.ref cA) → PySem.W.findIn C.K (.ref cA) "many" = some none := fun c hc cA e => by
  have e2 := cl_glo h c (ex_cl c hc)
  rw [e] at e2
  cases e2
  exact (ex1 h).2.2.1 c hc "many" (by decide +kernel)
theorem noat_name (h : FX C.K C.mg) : ∀ c ∈ exL, ∀ cA, C.mg c = some (.ref cA) → PySem.W.findIn C.K (.ref cA) "name" = some none := fun c hc cA e => by
  have e2 := cl_glo h c (ex_cl c hc)
  rw [e] at e2
  cases e2
  exact (ex1 h).2.2.1 c hc "name" (by decide +kernel)
theorem noat_number (h : FX C.K C.mg) : ∀ c ∈ exL, ∀ cA, C.mg c = some (.ref cA) → PySem.W.findIn C.K (.ref cA) "number" = some none := fun c hc cA e => by
  have e2 := cl_glo h c (ex_cl c hc)
  rw [e] at e2
  cases e2
  exact (ex1 h).2.2.1 c hc "number" (by decide +kernel)
theorem noat_paper (h : FX C.K C.mg) : ∀ c ∈ exL, ∀ cA, C.mg c = some (.ref cA) → PySem.W.findIn C.K (.ref cA) "paper" = some none := fun c hc cA e => by
  have e2 := cl_glo h c (ex_cl c hc)
  rw [e] at e2
  cases e2
  exact (ex1 h).2.2.1 c hc "paper" (by decide +kernel)
theorem noat_promise (h : FX C.K C.mg) : ∀ c ∈ exL, ∀ cA, C.mg c = some (.ref cA) → PySem.W.findIn C.K (.ref cA) "promise" = some none := fun c hc cA e => by
  have e2 := cl_glo h c (ex_cl c hc)
  rw [e] at e2
  cases e2
  exact (ex1 h).2.2.1 c hc "promise" (by decide +kernel)
theorem noat_row (h : FX C.K C.mg) : ∀ c ∈ exL, ∀ cA, C.mg c = some (.ref cA) → PySem.W.findIn C.K (.ref cA) "row" = some none := fun c hc cA e => by
  have e2 := cl_glo h c (ex_cl c hc)
  rw [e] at e2
  cases e2
  exact (ex1 h).2.2.1 c hc "row" (by decide +kernel)
theorem noat_what (h : FX C.K C.mg) : ∀ c ∈ exL, ∀ cA, C.mg c = some (.ref cA) → PySem.W.findIn C.K (.ref cA) "what" = some none := fun c hc cA e => by
  have e2 := cl_glo h c (ex_cl c hc)
  rw [e] at e2
  cases e2
  exact (ex1 h).2.2.1 c hc "what" (by decide +kernel)
theorem noat_witness (h : FX C.K C.mg) : ∀ c ∈ exL, ∀ cA, C.mg c = some (.ref cA) → PySem.W.findIn C.K (.ref cA) "witness" = some none := fun c hc cA e => by
  have e2 := cl_glo h c (ex_cl c hc)
  rw [e] at e2
  cases e2
  exact (ex1 h).2.2.1 c hc "witness" (by decide +kernel)
theorem noat_word (h : FX C.K C.mg) : ∀ c ∈ exL, ∀ cA, C.mg c = some (.ref cA) → PySem.W.findIn C.K (.ref cA) "word" = some none := fun c hc cA e => by
  have e2 := cl_glo h c (ex_cl c hc)
  rw [e] at e2
  cases e2
  exact (ex1 h).2.2.1 c hc "word" (by decide +kernel)
theorem exm_WebError (h : FX C.K C.mg) : ∀ y ∈ exL, ∀ cB, C.mg y = some (.ref cB) → PySem.W.exmOne C.K (.ref cB) (.ref (He.ga C.K "WebError")) = some true := fun c hc cA e => by
  have e2 := cl_glo h c (ex_cl c hc)
  rw [e] at e2
  cases e2
  exact (ex1 h).2.2.2.1 c hc
theorem exN_NothingToUndo (h : FX C.K C.mg) : ExcN C "NothingToUndo" := excN_of h (h.glo 45) 49
theorem exN_NothingToRedo (h : FX C.K C.mg) : ExcN C "NothingToRedo" := excN_of h (h.glo 46) 50
theorem scI_BadNumber : FnScope ["self", "what", "number"] ["self", "what", "number"] (defScope s30) := ⟨rfl, rfl, rfl, by decide +kernel, rfl, by decide +kernel, by decide +kernel⟩
theorem exD_BadNumber (h : FX C.K C.mg) : ExcD C P w base "BadNumber" ["what", "number"] 1 := by
  obtain ⟨fd, F⟩ := h.says.def_ 30 (d := d30) rfl
  exact excD_of ((ex1 h).1 ("BadNumber", ["what", "number"]) (by decide +kernel)) (h.glo 31) (F.bindsN fun _ _ _ _ _ _ us hl => match us, hl with | [_, _, _], _ => rfl) (F.ok scI_BadNumber (fun vs H Q E q => spI_len q) fun cdv A outer s H vs Q E hr q => ⟨_, (pss_cons (ps_ost (pe_var (i := 0) rfl (.inl rfl)) (pe_var (i := 1) rfl (.inl rfl))) (pss_one (ps_ost (pe_var (i := 0) rfl (.inl rfl)) (pe_var (i := 2) rfl (.inl rfl))))), init2 q⟩)
theorem scI_BadRow : FnScope ["self", "what", "row"] ["self", "what", "row"] (defScope s31) := ⟨rfl, rfl, rfl, by decide +kernel, rfl, by decide +kernel, by decide +kernel⟩
theorem exD_BadRow (h : FX C.K C.mg) : ExcD C P w base "BadRow" ["what", "row"] 1 := by
  obtain ⟨fd, F⟩ := h.says.def_ 31 (d := d31) rfl
  exact excD_of ((ex1 h).1 ("BadRow", ["what", "row"]) (by decide +kernel)) (h.glo 32) (F.bindsN fun _ _ _ _ _ _ us hl => match us, hl with | [_, _, _], _ => rfl) (F.ok scI_BadRow (fun vs H Q E q => spI_len q) fun cdv A outer s H vs Q E hr q => ⟨_, (pss_cons (ps_ost (pe_var (i := 0) rfl (.inl rfl)) (pe_var (i := 1) rfl (.inl rfl))) (pss_one (ps_ost (pe_var (i := 0) rfl (.inl rfl)) (pe_var (i := 2) rfl (.inl rfl))))), init2 q⟩)
theorem scI_BadTable : FnScope ["self", "what"] ["self", "what"] (defScope s32) := ⟨rfl, rfl, rfl, by decide +kernel, rfl, by decide +kernel, by decide +kernel⟩
theorem exD_BadTable (h : FX C.K C.mg) : ExcD C P w base "BadTable" ["what"] 1 := by
  obtain ⟨fd, F⟩ := h.says.def_ 32 (d := d32) rfl
  exact excD_of ((ex1 h).1 ("BadTable", ["what"]) (by decide +kernel)) (h.glo 33) (F.bindsN fun _ _ _ _ _ _ us hl => match us, hl with | [_, _], _ => rfl) (F.ok scI_BadTable (fun vs H Q E q => spI_len q) fun cdv A outer s H vs Q E hr q => ⟨_, (pss_one (ps_ost (pe_var (i := 0) rfl (.inl rfl)) (pe_var (i := 1) rfl (.inl rfl)))), init1 q⟩)
theorem scI_BadWeb : FnScope ["self", "what"] ["self", "what"] (defScope s33) := ⟨rfl, rfl, rfl, by decide +kernel, rfl, by decide +kernel, by decide +kernel⟩
theorem exD_BadWeb (h : FX C.K C.mg) : ExcD C P w base "BadWeb" ["what"] 1 := by
  obtain ⟨fd, F⟩ := h.says.def_ 33 (d := d33) rfl
  exact excD_of ((ex1 h).1 ("BadWeb", ["what"]) (by decide +kernel)) (h.glo 34) (F.bindsN fun _ _ _ _ _ _ us hl => match us, hl with | [_, _], _ => rfl) (F.ok scI_BadWeb (fun vs H Q E q => spI_len q) fun cdv A outer s H vs Q E hr q => ⟨_, (pss_one (ps_ost (pe_var (i := 0) rfl (.inl rfl)) (pe_var (i := 1) rfl (.inl rfl)))), init1 q⟩)
theorem scI_BadLot : FnScope ["self", "what", "lot"] ["self", "what", "lot"] (defScope s34) := ⟨rfl, rfl, rfl, by decide +kernel, rfl, by decide +kernel, by decide +kernel⟩
theorem exD_BadLot (h : FX C.K C.mg) : ExcD C P w base "BadLot" ["what", "lot"] 1 := by
  obtain ⟨fd, F⟩ := h.says.def_ 34 (d := d34) rfl
  exact excD_of ((ex1 h).1 ("BadLot", ["what", "lot"]) (by decide +kernel)) (h.glo 35) (F.bindsN fun _ _ _ _ _ _ us hl => match us, hl with | [_, _, _], _ => rfl) (F.ok scI_BadLot (fun vs H Q E q => spI_len q) fun cdv A outer s H vs Q E hr q => ⟨_, (pss_cons (ps_ost (pe_var (i := 0) rfl (.inl rfl)) (pe_var (i := 1) rfl (.inl rfl))) (pss_one (ps_ost (pe_var (i := 0) rfl (.inl rfl)) (pe_var (i := 2) rfl (.inl rfl))))), init2 q⟩)
theorem scI_BadName : FnScope ["self", "name"] ["self", "name"] (defScope s35) := ⟨rfl, rfl, rfl, by decide +kernel, rfl, by decide +kernel, by decide +kernel⟩
theorem exD_BadName (h : FX C.K C.mg) : ExcD C P w base "BadName" ["name"] 1 := by
  obtain ⟨fd, F⟩ := h.says.def_ 35 (d := d35) rfl
  exact excD_of ((ex1 h).1 ("BadName", ["name"]) (by decide +kernel)) (h.glo 36) (F.bindsN fun _ _ _ _ _ _ us hl => match us, hl with | [_, _], _ => rfl) (F.ok scI_BadName (fun vs H Q E q => spI_len q) fun cdv A outer s H vs Q E hr q => ⟨_, (pss_one (ps_ost (pe_var (i := 0) rfl (.inl rfl)) (pe_var (i := 1) rfl (.inl rfl)))), init1 q⟩)
theorem scI_BadText : FnScope ["self", "line", "word"] ["self", "line", "word"] (defScope s36) := ⟨rfl, rfl, rfl, by decide +kernel, rfl, by decide +kernel, by decide +kernel⟩
theorem exD_BadText (h : FX C.K C.mg) : ExcD C P w base "BadText" ["line", "word"] 1 := by
  obtain ⟨fd, F⟩ := h.says.def_ 36 (d := d36) rfl
  exact excD_of ((ex1 h).1 ("BadText", ["line", "word"]) (by decide +kernel)) (h.glo 37) (F.bindsN fun _ _ _ _ _ _ us hl => match us, hl with | [_, _, _], _ => rfl) (F.ok scI_BadText (fun vs H Q E q => spI_len q) fun cdv A outer s H vs Q E hr q => ⟨_, (pss_cons (ps_ost (pe_var (i := 0) rfl (.inl rfl)) (pe_var (i := 1) rfl (.inl rfl))) (pss_one (ps_ost (pe_var (i := 0) rfl (.inl rfl)) (pe_var (i := 2) rfl (.inl rfl))))), init2 q⟩)
theorem scI_NoPlace : FnScope ["self", "what", "index"] ["self", "what", "index"] (defScope s37) := ⟨rfl, rfl, rfl, by decide +kernel, rfl, by decide +kernel, by decide +kernel⟩
theorem exD_NoPlace (h : FX C.K C.mg) : ExcD C P w base "NoPlace" ["what", "index"] 1 := by
  obtain ⟨fd, F⟩ := h.says.def_ 37 (d := d37) rfl
  exact excD_of ((ex1 h).1 ("NoPlace", ["what", "index"]) (by decide +kernel)) (h.glo 38) (F.bindsN fun _ _ _ _ _ _ us hl => match us, hl with | [_, _, _], _ => rfl) (F.ok scI_NoPlace (fun vs H Q E q => spI_len q) fun cdv A outer s H vs Q E hr q => ⟨_, (pss_cons (ps_ost (pe_var (i := 0) rfl (.inl rfl)) (pe_var (i := 1) rfl (.inl rfl))) (pss_one (ps_ost (pe_var (i := 0) rfl (.inl rfl)) (pe_var (i := 2) rfl (.inl rfl))))), init2 q⟩)
theorem scI_NoName : FnScope ["self", "name"] ["self", "name"] (defScope s38) := ⟨rfl, rfl, rfl, by decide +kernel, rfl, by decide +kernel, by decide +kernel⟩
theorem exD_NoName (h : FX C.K C.mg) : ExcD C P w base "NoName" ["name"] 1 := by
  obtain ⟨fd, F⟩ := h.says.def_ 38 (d := d38) rfl
  exact excD_of ((ex1 h).1 ("NoName", ["name"]) (by decide +kernel)) (h.glo 39) (F.bindsN fun _ _ _ _ _ _ us hl => match us, hl with | [_, _], _ => rfl) (F.ok scI_NoName (fun vs H Q E q => spI_len q) fun cdv A outer s H vs Q E hr q => ⟨_, (pss_one (ps_ost (pe_var (i := 0) rfl (.inl rfl)) (pe_var (i := 1) rfl (.inl rfl)))), init1 q⟩)
theorem scI_TakenName : FnScope ["self", "name"] ["self", "name"] (defScope s39) := ⟨rfl, rfl, rfl, by decide +kernel, rfl, by decide +kernel, by decide +kernel⟩
theorem exD_TakenName (h : FX C.K C.mg) : ExcD C P w base "TakenName" ["name"] 1 := by
  obtain ⟨fd, F⟩ := h.says.def_ 39 (d := d39) rfl
  exact excD_of ((ex1 h).1 ("TakenName", ["name"]) (by decide +kernel)) (h.glo 40) (F.bindsN fun _ _ _ _ _ _ us hl => match us, hl with | [_, _], _ => rfl) (F.ok scI_TakenName (fun vs H Q E q => spI_len q) fun cdv A outer s H vs Q E hr q => ⟨_, (pss_one (ps_ost (pe_var (i := 0) rfl (.inl rfl)) (pe_var (i := 1) rfl (.inl rfl)))), init1 q⟩)
theorem scI_Unlike : FnScope ["self", "what"] ["self", "what"] (defScope s40) := ⟨rfl, rfl, rfl, by decide +kernel, rfl, by decide +kernel, by decide +kernel⟩
theorem exD_Unlike (h : FX C.K C.mg) : ExcD C P w base "Unlike" ["what"] 1 := by
  obtain ⟨fd, F⟩ := h.says.def_ 40 (d := d40) rfl
  exact excD_of ((ex1 h).1 ("Unlike", ["what"]) (by decide +kernel)) (h.glo 41) (F.bindsN fun _ _ _ _ _ _ us hl => match us, hl with | [_, _], _ => rfl) (F.ok scI_Unlike (fun vs H Q E q => spI_len q) fun cdv A outer s H vs Q E hr q => ⟨_, (pss_one (ps_ost (pe_var (i := 0) rfl (.inl rfl)) (pe_var (i := 1) rfl (.inl rfl)))), init1 q⟩)
theorem scI_NotThere : FnScope ["self", "paper"] ["self", "paper"] (defScope s41) := ⟨rfl, rfl, rfl, by decide +kernel, rfl, by decide +kernel, by decide +kernel⟩
theorem exD_NotThere (h : FX C.K C.mg) : ExcD C P w base "NotThere" ["paper"] 1 := by
  obtain ⟨fd, F⟩ := h.says.def_ 41 (d := d41) rfl
  exact excD_of ((ex1 h).1 ("NotThere", ["paper"]) (by decide +kernel)) (h.glo 42) (F.bindsN fun _ _ _ _ _ _ us hl => match us, hl with | [_, _], _ => rfl) (F.ok scI_NotThere (fun vs H Q E q => spI_len q) fun cdv A outer s H vs Q E hr q => ⟨_, (pss_one (ps_ost (pe_var (i := 0) rfl (.inl rfl)) (pe_var (i := 1) rfl (.inl rfl)))), init1 q⟩)
theorem scI_TooMany : FnScope ["self", "what", "many", "limit"] ["self", "what", "many", "limit"] (defScope s42) := ⟨rfl, rfl, rfl, by decide +kernel, rfl, by decide +kernel, by decide +kernel⟩
theorem exD_TooMany (h : FX C.K C.mg) : ExcD C P w base "TooMany" ["what", "many", "limit"] 1 := by
  obtain ⟨fd, F⟩ := h.says.def_ 42 (d := d42) rfl
  exact excD_of ((ex1 h).1 ("TooMany", ["what", "many", "limit"]) (by decide +kernel)) (h.glo 43) (F.bindsN fun _ _ _ _ _ _ us hl => match us, hl with | [_, _, _, _], _ => rfl) (F.ok scI_TooMany (fun vs H Q E q => spI_len q) fun cdv A outer s H vs Q E hr q => ⟨_, (pss_cons (ps_ost (pe_var (i := 0) rfl (.inl rfl)) (pe_var (i := 1) rfl (.inl rfl))) (pss_cons (ps_ost (pe_var (i := 0) rfl (.inl rfl)) (pe_var (i := 2) rfl (.inl rfl))) (pss_one (ps_ost (pe_var (i := 0) rfl (.inl rfl)) (pe_var (i := 3) rfl (.inl rfl)))))), init3 q⟩)
theorem scI_NotKept : FnScope ["self", "promise", "witness"] ["self", "promise", "witness"] (defScope s43) := ⟨rfl, rfl, rfl, by decide +kernel, rfl, by decide +kernel, by decide +kernel⟩
theorem exD_NotKept (h : FX C.K C.mg) : ExcD C P w base "NotKept" ["promise", "witness"] 1 := by
  obtain ⟨fd, F⟩ := h.says.def_ 43 (d := d43) rfl
  exact excD_of ((ex1 h).1 ("NotKept", ["promise", "witness"]) (by decide +kernel)) (h.glo 44) (F.bindsN fun _ _ _ _ _ _ us hl => match us, hl with | [_, _, _], _ => rfl) (F.ok scI_NotKept (fun vs H Q E q => spI_len q) fun cdv A outer s H vs Q E hr q => ⟨_, (pss_cons (ps_ost (pe_var (i := 0) rfl (.inl rfl)) (pe_var (i := 1) rfl (.inl rfl))) (pss_one (ps_ost (pe_var (i := 0) rfl (.inl rfl)) (pe_var (i := 2) rfl (.inl rfl))))), init2 q⟩)
end
def b_is_integer : SM :=
    (mRet (mV (mTAnd (mT (mCall (kIsi objL exL ask) (aCons (mVal 0) (aCons (mC (.ty "int")) aNil)))) (mTNot (mT (mCall (kIsi objL exL ask) (aCons (mVal 0) (aCons (mC (.ty "bool")) aNil))))))))
def m_is_integer : FM := mDef 1 b_is_integer
theorem sc_is_integer : FnScope ["value"] ["value"] (defScope s0) := ⟨rfl, rfl, rfl, by decide +kernel, rfl, by decide +kernel, by decide +kernel⟩
theorem fn_is_integer {C : Ctx} {P : Program} {wd : World} {base : Heap} (h : FX C.K C.mg) (hx : C.ex = none) : Fn C P wd base true "is_integer" 1 1 m_is_integer := by
  obtain ⟨fd, F⟩ := h.says.def_ 0 (d := d0) rfl
  exact fn_of (N := ["value"]) (m := b_is_integer) F (h.glo 0) sc_is_integer hx (F.bindsN (ps := ["value"]) fun _ _ _ _ _ _ us hl => match us, hl with | [_], _ => rfl) fun cdv A outer s H E w =>
    (sm_one (sm_ret (vm_and (vm (pm_isi rfl (Hot.none w.cold) (ask_ok h) askT_c (clss_ok h) (h.free 56) (bm_cons (pb (pm_val 0)) (bm_cons (pb (pm_gty (h.free 55) (by with_unfolding_all rfl))) bm_nil)))) (vm_one (vm_not (vm (pm_isi rfl (Hot.none w.cold) (ask_ok h) askT_c (clss_ok h) (h.free 56) (bm_cons (pb (pm_val 0)) (bm_cons (pb (pm_gty (h.free 54) (by with_unfolding_all rfl))) bm_nil)))))))))
def b_is_list : SM :=
    (mRet (mCall (kIsiT objL ask) (aCons (mVal 0) (aCons (mTup (aCons (mC (.ty "list")) (aCons (mC (.ty "tuple")) aNil))) aNil))))
def m_is_list : FM := mDef 1 b_is_list
theorem sc_is_list : FnScope ["value"] ["value"] (defScope s1) := ⟨rfl, rfl, rfl, by decide +kernel, rfl, by decide +kernel, by decide +kernel⟩
theorem fn_is_list {C : Ctx} {P : Program} {wd : World} {base : Heap} (h : FX C.K C.mg) (hx : C.ex = none) : Fn C P wd base true "is_list" 1 1 m_is_list := by
  obtain ⟨fd, F⟩ := h.says.def_ 1 (d := d1) rfl
  exact fn_of (N := ["value"]) (m := b_is_list) F (h.glo 1) sc_is_list hx (F.bindsN (ps := ["value"]) fun _ _ _ _ _ _ us hl => match us, hl with | [_], _ => rfl) fun cdv A outer s H E w =>
    (sm_one (sm_ret (pm_isiT rfl (ask_ok h) (clss_ok h) (h.free 56) (bm_cons (pb (pm_val 0)) (bm_cons (pb (pm_tup (am_cons (pm_gty (h.free 58) (by with_unfolding_all rfl)) (am_cons (pm_gty (h.free 62) (by with_unfolding_all rfl)) am_nil)))) bm_nil)))))
def b_is_indexes : SM :=
    (mRet (mV (mTAnd (mT (mFn m_is_list (aCons (mVal 0) aNil))) (mTAnd (mT (mOp kEq (mCall kLen (aCons (mVal 0) aNil)) (mVal 1))) (mT (mCall kAll (aCons (mFr (mComp (mIt (mVal 0)) [2] (gNm 2) tmYes (mFn m_is_integer (aCons (mVal 2) aNil)))) aNil)))))))
def m_is_indexes : FM := mDef 3 b_is_indexes
theorem sc_is_indexes : FnScope ["value", "many", "one"] ["value", "many"] (defScope s2) := ⟨rfl, rfl, rfl, by decide +kernel, rfl, by decide +kernel, by decide +kernel⟩
theorem fn_is_indexes {C : Ctx} {P : Program} {wd : World} {base : Heap} (h : FX C.K C.mg) (hx : C.ex = none) : Fn C P wd base true "is_indexes" 2 2 m_is_indexes := by
  obtain ⟨fd, F⟩ := h.says.def_ 2 (d := d2) rfl
  exact fn_of (N := ["value", "many", "one"]) (m := b_is_indexes) F (h.glo 2) sc_is_indexes hx (F.bindsN (ps := ["value", "many"]) fun _ _ _ _ _ _ us hl => match us, hl with | [_, _], _ => rfl) fun cdv A outer s H E w =>
    (sm_one (sm_ret (vm_and (vm (pm_call (fn_is_list (C := C) h w.cold) w (by decide) (fun _ => rfl) (am_cons (pm_val 0) am_nil) (al a0))) (vm_and (vm (pm_eq w.hu (pb (pm_len (h.free 57) (pb (pm_val 0)))) (pb (pm_val 1)))) (vm_one (vm (pm_all rfl (h.free 53) (pfb (pm_lc rfl sc_is_indexes.nd (im_seqB (pb (pm_val 0))) (own := [("one", 2)]) (blk_of (by kernel_rfl)) (fun s H Cb cl fp => (gm_name 2 sc_is_indexes.nd)) (fun s H Cb cl fp => tms_nil) (fun s H Cb cl fp => (pm_call (fn_is_integer (C := C) h w.cold) (w.blk s H _ Cb cl fp) (by decide) (fun _ => rfl) (am_cons (pm_val 2) am_nil) (al a0))))))))))))
def b_need_line : SM :=
    (mSeq (mSet (mV (mTAnd (mT (mFn m_is_list (aCons (mVal 0) aNil))) (mTAnd (mT (mChain kLe kLe (mC (.int 1)) (mCall kLen (aCons (mVal 0) aNil)) (mC (.int 400)))) (mT (mFn m_is_indexes (aCons (mVal 0) (aCons (mCall kLen (aCons (mVal 0) aNil)) aNil))))))) (gNm 2))
    (mSeq (mIfS (mTOr (mTNot (mT (mVal 2))) (mTNot (mT (mCall kAll (aCons (mFr (mComp (mIt (mVal 0)) [3] (gNm 3) tmYes (mOp kGe (mVal 3) (mC (.int 2))))) aNil))))) (mRaise "BadRow" ["what", "row"] (aCons (mVal 1) (aCons (mVal 0) aNil))) mNext)
    (mRet (mCall kTuple (aCons (mVal 0) aNil)))))
def m_need_line : FM := mDef 4 b_need_line
theorem sc_need_line : FnScope ["row", "what", "good", "x"] ["row", "what"] (defScope s3) := ⟨rfl, rfl, rfl, by decide +kernel, rfl, by decide +kernel, by decide +kernel⟩
theorem fn_need_line {C : Ctx} {P : Program} {wd : World} {base : Heap} (h : FX C.K C.mg) (hx : C.ex = none) : Fn C P wd base true "need_line" 3 2 m_need_line := by
  obtain ⟨fd, F⟩ := h.says.def_ 3 (d := d3) rfl
  exact fn_of (N := ["row", "what", "good", "x"]) (m := b_need_line) F (h.glo 3) sc_need_line hx (F.bindsN (ps := ["row", "what"]) fun _ _ _ _ _ _ us hl => match us, hl with | [_, _], _ => rfl) fun cdv A outer s H E w =>
    (sm_cons (sm_set 2 sc_need_line.nd (vm_and (vm (pm_call (fn_is_list (C := C) h w.cold) w (by decide) (fun _ => rfl) (am_cons (pm_val 0) am_nil) (al a0))) (vm_and (vm (pm_chain ok_le ok_le op_le op_le (pb pm_int) (pb (pm_len (h.free 57) (pb (pm_val 0)))) (pb (pm_gint (h.int 47).choose_spec ⟨_, rfl⟩)))) (vm_one (vm (pm_call (fn_is_indexes (C := C) h w.cold) w (by decide) (fun _ => rfl) (am_cons (pm_val 0) (am_cons (pm_len (h.free 57) (pb (pm_val 0))) am_nil)) (al (al a0))))))))
    (sm_cons (sm_if (wm_or (tm_not (tm_val (pm_val 2))) (wm_or1 (tm_not (tm_val (pm_all rfl (h.free 53) (pfb (pm_lc rfl sc_need_line.nd (im_seqB (pb (pm_val 0))) (own := [("x", 3)]) (blk_of (by kernel_rfl)) (fun s H Cb cl fp => (gm_name 3 sc_need_line.nd)) (fun s H Cb cl fp => tms_nil) (fun s H Cb cl fp => (pm_ge (pb (pm_val 3)) (pb pm_int)))))))))).pt (sm_one (sm_raise w rfl (exD_BadRow h) (by decide) (am_cons (pm_val 1) (am_cons (pm_val 0) am_nil)))) sm_nil)
    (sm_one (sm_ret (pm_tuple (h.free 62) (pb (pm_val 0)))))))
def b_fraction_of : SM :=
    (mSeq (mPar2 1 2 (sVal (mOp kIx (mVal 0) (mNeg (mC (.int 1)))) (sVal (mC (.int 1)) sNil)))
    (mSeq (mFor (mIt (mSlR (mVal 0) (oSome (mNeg (mC (.int 2)))) (oSome (mNeg (mC (.int 1)))))) (gNm 3)
    (mPar2 1 2 (sVal (mOp kSub (mOp kMul (mVal 3) (mVal 1)) (mVal 2)) (sVal (mVal 1) sNil))))
    (mRet (mTup (aCons (mVal 1) (aCons (mVal 2) aNil))))))
def m_fraction_of : FM := mDef 4 b_fraction_of
theorem sc_fraction_of : FnScope ["row", "p", "q", "x"] ["row"] (defScope s4) := ⟨rfl, rfl, rfl, by decide +kernel, rfl, by decide +kernel, by decide +kernel⟩
theorem fn_fraction_of {C : Ctx} {P : Program} {wd : World} {base : Heap} (h : FX C.K C.mg) (hx : C.ex = none) : Fn C P wd base true "fraction_of" 1 1 m_fraction_of := by
  obtain ⟨fd, F⟩ := h.says.def_ 4 (d := d4) rfl
  exact fn_of (N := ["row", "p", "q", "x"]) (m := b_fraction_of) F (h.glo 4) sc_fraction_of hx (F.bindsN (ps := ["row"]) fun _ _ _ _ _ _ us hl => match us, hl with | [_], _ => rfl) fun cdv A outer s H E w =>
    (sm_cons (sm_par2 1 2 rfl sc_fraction_of.nd (as_val (pm_ix (pb (pm_val 0)) (pb (pm_neg (pb pm_int)))) (as_val pm_int as_nil)))
    (sm_cons (sm_for (passes_of rfl) rfl (im_seq (pm_slR (pb (pm_val 0)) (om_some (pb (pm_neg (pb pm_int)))) (om_some (pb (pm_neg (pb pm_int)))))) (gm_name 3 sc_fraction_of.nd)
    (sm_one (sm_par2 1 2 rfl sc_fraction_of.nd (as_val (pm_sub (pb (pm_mul (pb (pm_val 3)) (pb (pm_val 1)))) (pb (pm_val 2))) (as_val (pm_val 1) as_nil)))))
    (sm_one (sm_ret (pm_tup (am_cons (pm_val 1) (am_cons (pm_val 2) am_nil)))))))
def b_line_fraction : SM :=
    (mRet (mFn m_fraction_of (aCons (mFn m_need_line (aCons (mVal 0) (aCons (mC (.str "row")) aNil))) aNil)))
def m_line_fraction : FM := mDef 1 b_line_fraction
theorem sc_line_fraction : FnScope ["row"] ["row"] (defScope s5) := ⟨rfl, rfl, rfl, by decide +kernel, rfl, by decide +kernel, by decide +kernel⟩
theorem fn_line_fraction {C : Ctx} {P : Program} {wd : World} {base : Heap} (h : FX C.K C.mg) (hx : C.ex = none) : Fn C P wd base true "line_fraction" 4 1 m_line_fraction := by
  obtain ⟨fd, F⟩ := h.says.def_ 5 (d := d5) rfl
  exact fn_of (N := ["row"]) (m := b_line_fraction) F (h.glo 5) sc_line_fraction hx (F.bindsN (ps := ["row"]) fun _ _ _ _ _ _ us hl => match us, hl with | [_], _ => rfl) fun cdv A outer s H E w =>
    (sm_one (sm_ret (pm_call (fn_fraction_of (C := C) h w.cold) w (by decide) (fun _ => rfl) (am_cons (pm_call (fn_need_line (C := C) h w.cold) w (by decide) (fun _ => rfl) (am_cons (pm_val 0) (am_cons pm_str am_nil)) (al (al a0))) am_nil) (al a0))))
def b_need_fraction : SM :=
    (mSeq (mIfS (mTOr (mTNot (mT (mFn m_is_integer (aCons (mVal 0) aNil)))) (mTNot (mT (mChain kLe kLt (mC (.int 2)) (mVal 0) (mC (.int 1000000000000000000000000000000000000000000000000000000000000)))))) (mRaise "BadNumber" ["what", "number"] (aCons (mC (.str "p")) (aCons (mVal 0) aNil))) mNext)
    (mIfS (mTOr (mTNot (mT (mFn m_is_integer (aCons (mVal 1) aNil)))) (mTOr (mTNot (mT (mChain kLe kLt (mC (.int 1)) (mVal 1) (mVal 0)))) (mT (mOp kNe (mCall kGcd (aCons (mVal 0) (aCons (mVal 1) aNil))) (mC (.int 1)))))) (mRaise "BadNumber" ["what", "number"] (aCons (mC (.str "q")) (aCons (mVal 1) aNil))) mNext))
def m_need_fraction : FM := mDef 2 b_need_fraction
theorem sc_need_fraction : FnScope ["p", "q"] ["p", "q"] (defScope s6) := ⟨rfl, rfl, rfl, by decide +kernel, rfl, by decide +kernel, by decide +kernel⟩
theorem fn_need_fraction {C : Ctx} {P : Program} {wd : World} {base : Heap} (h : FX C.K C.mg) (hx : C.ex = none) : Fn C P wd base true "need_fraction" 3 2 m_need_fraction := by
  obtain ⟨fd, F⟩ := h.says.def_ 6 (d := d6) rfl
  exact fn_of (N := ["p", "q"]) (m := b_need_fraction) F (h.glo 6) sc_need_fraction hx (F.bindsN (ps := ["p", "q"]) fun _ _ _ _ _ _ us hl => match us, hl with | [_, _], _ => rfl) fun cdv A outer s H E w =>
    (sm_cons (sm_if (wm_or (tm_not (tm_val (pm_call (fn_is_integer (C := C) h w.cold) w (by decide) (fun _ => rfl) (am_cons (pm_val 0) am_nil) (al a0)))) (wm_or1 (tm_not (tm_chain ok_le ok_lt op_le op_lt (pb pm_int) (pb (pm_val 0)) (pb (pm_gint (h.int 48).choose_spec ⟨_, rfl⟩)))))).pt (sm_one (sm_raise w rfl (exD_BadNumber h) (by decide) (am_cons pm_str (am_cons (pm_val 0) am_nil)))) sm_nil)
    (sm_one (sm_if (wm_or (tm_not (tm_val (pm_call (fn_is_integer (C := C) h w.cold) w (by decide) (fun _ => rfl) (am_cons (pm_val 1) am_nil) (al a0)))) (wm_or (tm_not (tm_chain ok_le ok_lt op_le op_lt (pb pm_int) (pb (pm_val 1)) (pb (pm_val 0)))) (wm_or1 (tm_ne w.hu (pb (pm_gcd (imp_gcd h) (pb (pm_val 0)) (pb (pm_val 1)))) (pb pm_int))))).pt (sm_one (sm_raise w rfl (exD_BadNumber h) (by decide) (am_cons pm_str (am_cons (pm_val 1) am_nil)))) sm_nil)))
def b_row_of_fraction : SM :=
    (mSeq (mDrop (mFn m_need_fraction (aCons (mVal 0) (aCons (mVal 1) aNil))))
    (mSeq (mSetO (mLst aNil) 2)
    (mSeq (mWhile (fun _ _ => 500) (mT (mOp kGt (mVal 1) (mC (.int 0))))
    (mSeq (mIfS (mT (mOp kEq (mCall kLen (aCons (mOwn 2) aNil)) (mC (.int 400)))) (mRaise "TooMany" ["what", "many", "limit"] (aCons (mC (.str "row")) (aCons (mOp kAdd (mC (.int 400)) (mC (.int 1))) (aCons (mC (.int 400)) aNil)))) mNext)
    (mSeq (mSet (mOp kDiv (mOp kSub (mOp kAdd (mVal 0) (mVal 1)) (mC (.int 1))) (mVal 1)) (gNm 3))
    (mSeq (mApp 2 (mVal 3))
    (mPar2 0 1 (sVal (mVal 1) (sVal (mOp kSub (mOp kMul (mVal 3) (mVal 1)) (mVal 0)) sNil)))))))
    (mRet (mCall kTuple (aCons (mOwn 2) aNil))))))
def m_row_of_fraction : FM := mDef 4 b_row_of_fraction
theorem sc_row_of_fraction : FnScope ["p", "q", "found", "x"] ["p", "q"] (defScope s7) := ⟨rfl, rfl, rfl, by decide +kernel, rfl, by decide +kernel, by decide +kernel⟩
theorem fn_row_of_fraction {C : Ctx} {P : Program} {wd : World} {base : Heap} (h : FX C.K C.mg) (hx : C.ex = none) : Fn C P wd base true "row_of_fraction" 4 2 m_row_of_fraction := by
  obtain ⟨fd, F⟩ := h.says.def_ 7 (d := d7) rfl
  exact fn_of (N := ["p", "q", "found", "x"]) (m := b_row_of_fraction) F (h.glo 7) sc_row_of_fraction hx (F.bindsN (ps := ["p", "q"]) fun _ _ _ _ _ _ us hl => match us, hl with | [_, _], _ => rfl) fun cdv A outer s H E w =>
    (sm_cons (sm_expr (pb (pm_call (fn_need_fraction (C := C) h w.cold) w (by decide) (fun _ => rfl) (am_cons (pm_val 0) (am_cons (pm_val 1) am_nil)) (al (al a0)))))
    (sm_cons (sm_setO 2 sc_row_of_fraction.nd (pm_lst am_nil))
    (sm_cons (sm_while (fun _ _ => 500) (passes_of rfl) (tm_gt (pb (pm_val 1)) (pb pm_int))
    (sm_cons (sm_if (tm_eq w.hu (pb (pm_len (h.free 57) (pm_own 2))) (pb (pm_gint (h.int 47).choose_spec ⟨_, rfl⟩))) (sm_one (sm_raise w rfl (exD_TooMany h) (by decide) (am_cons pm_str (am_cons (pm_add (pb (pm_gint (h.int 47).choose_spec ⟨_, rfl⟩)) (pb pm_int)) (am_cons (pm_gint (h.int 47).choose_spec ⟨_, rfl⟩) am_nil))))) sm_nil)
    (sm_cons (sm_set 3 sc_row_of_fraction.nd (pm_div (pb (pm_sub (pb (pm_add (pb (pm_val 0)) (pb (pm_val 1)))) (pb pm_int))) (pb (pm_val 1))))
    (sm_cons (sm_app 2 (pm_val 3))
    (sm_one (sm_par2 0 1 rfl sc_row_of_fraction.nd (as_val (pm_val 1) (as_val (pm_sub (pb (pm_mul (pb (pm_val 3)) (pb (pm_val 1)))) (pb (pm_val 0))) as_nil))))))))
    (sm_one (sm_ret (pm_tuple (h.free 62) (pm_own 2)))))))
def b_line_table : SM :=
    (mSeq (mPar2 1 2 (sVal (mFn m_need_line (aCons (mVal 0) (aCons (mC (.str "row")) aNil))) (sOwn (mLst aNil) sNil)))
    (mSeq (mSet (mCall kLen (aCons (mVal 1) aNil)) (gNm 3))
    (mSeq (mFor (mRng1 (mVal 3)) (gNm 4)
    (mApp 2 (mCall kTuple (aCons (mFr (mComp (mRng1 (mVal 3)) [5] (gNm 5) tmYes (mIf (mT (mOp kEq (mVal 4) (mVal 5))) (mOp kIx (mVal 1) (mVal 4)) (mIf (mT (mOp kEq (mCall kAbs (aCons (mOp kSub (mVal 4) (mVal 5)) aNil)) (mC (.int 1)))) (mNeg (mC (.int 1))) (mC (.int 0)))))) aNil))))
    (mRet (mCall kTuple (aCons (mOwn 2) aNil))))))
def m_line_table : FM := mDef 6 b_line_table
theorem sc_line_table : FnScope ["row", "told", "found", "many", "i", "k"] ["row"] (defScope s8) := ⟨rfl, rfl, rfl, by decide +kernel, rfl, by decide +kernel, by decide +kernel⟩
theorem fn_line_table {C : Ctx} {P : Program} {wd : World} {base : Heap} (h : FX C.K C.mg) (hx : C.ex = none) : Fn C P wd base true "line_table" 4 1 m_line_table := by
  obtain ⟨fd, F⟩ := h.says.def_ 8 (d := d8) rfl
  exact fn_of (N := ["row", "told", "found", "many", "i", "k"]) (m := b_line_table) F (h.glo 8) sc_line_table hx (F.bindsN (ps := ["row"]) fun _ _ _ _ _ _ us hl => match us, hl with | [_], _ => rfl) fun cdv A outer s H E w =>
    (sm_cons (sm_parC2 1 2 rfl sc_line_table.nd (as_val (pm_call (fn_need_line (C := C) h w.cold) w (by decide) (fun _ => rfl) (am_cons (pm_val 0) (am_cons pm_str am_nil)) (al (al a0))) (as_own (pm_lst am_nil) as_nil)))
    (sm_cons (sm_set 3 sc_line_table.nd (pm_len (h.free 57) (pb (pm_val 1))))
    (sm_cons (sm_for (passes_of rfl) rfl (im_range1 (h.free 59) (pb (pm_val 3))) (gm_name 4 sc_line_table.nd)
    (sm_one (sm_app 2 (pm_tuple (h.free 62) (pfb (pm_lc rfl sc_line_table.nd (im_range1 (h.free 59) (pb (pm_val 3))) (own := [("k", 5)]) (blk_of (by kernel_rfl)) (fun s H Cb cl fp => (gm_name 5 sc_line_table.nd)) (fun s H Cb cl fp => tms_nil) (fun s H Cb cl fp => (pm_if (tm_eq (w.blk s H _ Cb cl fp).hu (pb (pm_val 4)) (pb (pm_val 5))) (pm_ix (pb (pm_val 1)) (pb (pm_val 4))) (pm_if (tm_eq (w.blk s H _ Cb cl fp).hu (pb (pm_abs (h.free 52) (pb (pm_sub (pb (pm_val 4)) (pb (pm_val 5)))))) (pb pm_int)) (pm_neg (pb pm_int)) pm_int)))))))))
    (sm_one (sm_ret (pm_tuple (h.free 62) (pm_own 2)))))))
def b__law_pen : SM :=
    (mSeq (mSet (mC (.int 0)) (gNm 1))
    (mSeq (mFor (mItS (mVal 0)) (gNm 2)
    (mSet (mOp kMod (mCall kInt1 (aCons (mOp kAdd (mOp kMul (mVal 1) (mC (.int 47))) (mVal 2)) aNil)) (mC (.int 1000000007))) (gNm 1)))
    (mRet (mDisp [(.inr "cells", (mFr (mFCall kListS (aCons (mVal 0) aNil)))), (.inr "at", (mC (.int 0))), (.inr "digits", (mC (.int 0))), (.inr "count", (mC (.int 0))), (.inr "fold", (mVal 1))]))))
def m__law_pen : FM := mDef 3 b__law_pen
theorem sc__law_pen : FnScope ["script", "fold", "cell"] ["script"] (defScope s9) := ⟨rfl, rfl, rfl, by decide +kernel, rfl, by decide +kernel, by decide +kernel⟩
theorem fn__law_pen {C : Ctx} {P : Program} {wd : World} {base : Heap} (h : FX C.K C.mg) (hx : C.ex = none) : Fn C P wd base true "_law_pen" 1 1 m__law_pen := by
  obtain ⟨fd, F⟩ := h.says.def_ 9 (d := d9) rfl
  exact fn_of (N := ["script", "fold", "cell"]) (m := b__law_pen) F (h.glo 9) sc__law_pen hx (F.bindsN (ps := ["script"]) fun _ _ _ _ _ _ us hl => match us, hl with | [_], _ => rfl) fun cdv A outer s H E w =>
    (sm_cons (sm_set 1 sc__law_pen.nd pm_int)
    (sm_cons (sm_for (passes_of rfl) rfl (im_scr rfl (pm_val 0)) (gm_name 2 sc__law_pen.nd)
    (sm_one (sm_set 1 sc__law_pen.nd (pm_mod (pb (pm_int1 (h.free 55) (pb (pm_add (pb (pm_mul (pb (pm_val 1)) (pb pm_int))) (pb (pm_val 2)))))) (pb pm_int)))))
    (sm_one (sm_ret (pm_disp (ms := [(.inr "cells", (mFr (mFCall kListS (aCons (mVal 0) aNil)))), (.inr "at", (mC (.int 0))), (.inr "digits", (mC (.int 0))), (.inr "count", (mC (.int 0))), (.inr "fold", (mVal 1))]) (pps_cons pe_str (pf (pm_listS rfl (h.free 58) (bm_cons (pb (pm_val 0)) bm_nil))) (pps_cons pe_str pm_int (pps_cons pe_str pm_int (pps_cons pe_str pm_int (pps_cons pe_str (pm_val 1) pps_nil))))))))))
def b__law_draw : SM :=
    (mSeq (mPenPut 0 (.inr "count") (mOp kAdd (mPenGet (.inr "count") (mVal 0)) (mC (.int 1))))
    (mSeq (mIfS (mTAnd (mT (mOp kEq (mPenGet (.inr "digits") (mVal 0)) (mC (.int 0)))) (mT (mOp kLt (mPenGet (.inr "at") (mVal 0)) (mCall kLen (aCons (mPenGet (.inr "cells") (mVal 0)) aNil))))) (mSeq (mSet (mOp kIx (mPenGet (.inr "cells") (mVal 0)) (mPenGet (.inr "at") (mVal 0))) (gNm 2))
    (mSeq (mPenPut 0 (.inr "at") (mOp kAdd (mPenGet (.inr "at") (mVal 0)) (mC (.int 1))))
    (mIfS (mT (mOp kGe (mVal 2) (mOp kPow (mC (.int 10)) (mC (.int 18))))) (mPenPut 0 (.inr "digits") (mOp kSub (mVal 2) (mOp kPow (mC (.int 10)) (mC (.int 18))))) (mPenPut 0 (.inr "fold") (mOp kMod (mCall kInt1 (aCons (mOp kAdd (mOp kMul (mPenGet (.inr "fold") (mVal 0)) (mC (.int 69069))) (mVal 2)) aNil)) (mC (.int 2147483587))))))) mNext)
    (mSeq (mIfS (mT (mOp kGt (mPenGet (.inr "digits") (mVal 0)) (mC (.int 0)))) (mSeq (mSet (mOp kMod (mCall kInt1 (aCons (mPenGet (.inr "digits") (mVal 0)) aNil)) (mVal 1)) (gNm 3))
    (mSeq (mPenPut 0 (.inr "digits") (mOp kDiv (mPenGet (.inr "digits") (mVal 0)) (mVal 1)))
    (mRet (mVal 3)))) mNext)
    (mSeq (mSet (mOp kMod (mCall kInt1 (aCons (mOp kAdd (mOp kAdd (mOp kMul (mPenGet (.inr "fold") (mVal 0)) (mC (.int 48271))) (mOp kMul (mPenGet (.inr "count") (mVal 0)) (mC (.int 7919)))) (mC (.int 13))) aNil)) (mC (.int 2147483647))) (gNm 4))
    (mSeq (mSet (mOp kMod (mCall kInt1 (aCons (mOp kAdd (mOp kAdd (mOp kMul (mVal 4) (mVal 4)) (mOp kMul (mC (.int 31)) (mVal 4))) (mPenGet (.inr "count") (mVal 0))) aNil)) (mC (.int 2147483629))) (gNm 4))
    (mSeq (mPenPut 0 (.inr "fold") (mOp kMod (mCall kInt1 (aCons (mOp kAdd (mOp kMul (mVal 4) (mC (.int 16807))) (mC (.int 7))) aNil)) (mC (.int 2147483647))))
    (mRet (mOp kMod (mCall kInt1 (aCons (mOp kDiv (mVal 4) (mC (.int 64))) aNil)) (mVal 1)))))))))
def m__law_draw : FM := mDef 5 b__law_draw
theorem sc__law_draw : FnScope ["pen", "many", "cell", "digit", "blend"] ["pen", "many"] (defScope s10) := ⟨rfl, rfl, rfl, by decide +kernel, rfl, by decide +kernel, by decide +kernel⟩
theorem fn__law_draw {C : Ctx} {P : Program} {wd : World} {base : Heap} (h : FX C.K C.mg) (hx : C.ex = none) : Fn C P wd base true "_law_draw" 1 2 m__law_draw := by
  obtain ⟨fd, F⟩ := h.says.def_ 10 (d := d10) rfl
  exact fn_of (N := ["pen", "many", "cell", "digit", "blend"]) (m := b__law_draw) F (h.glo 10) sc__law_draw hx (F.bindsN (ps := ["pen", "many"]) fun _ _ _ _ _ _ us hl => match us, hl with | [_, _], _ => rfl) fun cdv A outer s H E w =>
    (sm_cons (sm_penPut 0 w.hu (pm_add (pb (pm_penGet w.hu (pm_val 0))) (pb pm_int)))
    (sm_cons (sm_if (wm_and (tm_eq w.hu (pb (pm_penGet w.hu (pm_val 0))) (pb pm_int)) (wm_and1 (tm_lt (pb (pm_penGet w.hu (pm_val 0))) (pb (pm_len (h.free 57) (pb (pm_penGet w.hu (pm_val 0)))))))).pt (sm_cons (sm_set 2 sc__law_draw.nd (pm_ix (pb (pm_penGet w.hu (pm_val 0))) (pb (pm_penGet w.hu (pm_val 0)))))
    (sm_cons (sm_penPut 0 w.hu (pm_add (pb (pm_penGet w.hu (pm_val 0))) (pb pm_int)))
    (sm_one (sm_if (tm_ge (pb (pm_val 2)) (pb (pm_pow (pb pm_int) (pb pm_int)))) (sm_one (sm_penPut 0 w.hu (pm_sub (pb (pm_val 2)) (pb (pm_pow (pb pm_int) (pb pm_int)))))) (sm_one (sm_penPut 0 w.hu (pm_mod (pb (pm_int1 (h.free 55) (pb (pm_add (pb (pm_mul (pb (pm_penGet w.hu (pm_val 0))) (pb pm_int))) (pb (pm_val 2)))))) (pb pm_int)))))))) sm_nil)
    (sm_cons (sm_if (tm_gt (pb (pm_penGet w.hu (pm_val 0))) (pb pm_int)) (sm_cons (sm_set 3 sc__law_draw.nd (pm_mod (pb (pm_int1 (h.free 55) (pb (pm_penGet w.hu (pm_val 0))))) (pb (pm_val 1))))
    (sm_cons (sm_penPut 0 w.hu (pm_div (pb (pm_penGet w.hu (pm_val 0))) (pb (pm_val 1))))
    (sm_one (sm_ret (pm_val 3))))) sm_nil)
    (sm_cons (sm_set 4 sc__law_draw.nd (pm_mod (pb (pm_int1 (h.free 55) (pb (pm_add (pb (pm_add (pb (pm_mul (pb (pm_penGet w.hu (pm_val 0))) (pb pm_int))) (pb (pm_mul (pb (pm_penGet w.hu (pm_val 0))) (pb pm_int))))) (pb pm_int))))) (pb pm_int)))
    (sm_cons (sm_set 4 sc__law_draw.nd (pm_mod (pb (pm_int1 (h.free 55) (pb (pm_add (pb (pm_add (pb (pm_mul (pb (pm_val 4)) (pb (pm_val 4)))) (pb (pm_mul (pb pm_int) (pb (pm_val 4)))))) (pb (pm_penGet w.hu (pm_val 0))))))) (pb pm_int)))
    (sm_cons (sm_penPut 0 w.hu (pm_mod (pb (pm_int1 (h.free 55) (pb (pm_add (pb (pm_mul (pb (pm_val 4)) (pb pm_int))) (pb pm_int))))) (pb pm_int)))
    (sm_one (sm_ret (pm_mod (pb (pm_int1 (h.free 55) (pb (pm_div (pb (pm_val 4)) (pb pm_int))))) (pb (pm_val 1)))))))))))
def b__law_pick : SM :=
    (mRet (mOp kIx (mVal 1) (mFn m__law_draw (aCons (mVal 0) (aCons (mCall kLen (aCons (mVal 1) aNil)) aNil)))))
def m__law_pick : FM := mDef 2 b__law_pick
theorem sc__law_pick : FnScope ["pen", "some"] ["pen", "some"] (defScope s11) := ⟨rfl, rfl, rfl, by decide +kernel, rfl, by decide +kernel, by decide +kernel⟩
theorem fn__law_pick {C : Ctx} {P : Program} {wd : World} {base : Heap} (h : FX C.K C.mg) (hx : C.ex = none) : Fn C P wd base true "_law_pick" 2 2 m__law_pick := by
  obtain ⟨fd, F⟩ := h.says.def_ 11 (d := d11) rfl
  exact fn_of (N := ["pen", "some"]) (m := b__law_pick) F (h.glo 11) sc__law_pick hx (F.bindsN (ps := ["pen", "some"]) fun _ _ _ _ _ _ us hl => match us, hl with | [_, _], _ => rfl) fun cdv A outer s H E w =>
    (sm_one (sm_ret (pm_ix (pb (pm_val 1)) (pb (pm_call (fn__law_draw (C := C) h w.cold) w (by decide) (fun _ => rfl) (am_cons (pm_val 0) (am_cons (pm_len (h.free 57) (pb (pm_val 1))) am_nil)) (al (al a0)))))))
def b__law_is (r : FM) : SM :=
    (mSeq (mIfS (mT (mCall (kIsi objL exL ask) (aCons (mVal 1) (aCons (mC (.ty "tuple")) aNil)))) (mSeq (mIfS (mTOr (mTNot (mT (mCall (kIsi objL exL ask) (aCons (mVal 0) (aCons (mC (.ty "tuple")) aNil))))) (mT (mOp kNe (mCall kLen (aCons (mVal 0) aNil)) (mCall kLen (aCons (mVal 1) aNil))))) (mRet (mC (.bl false))) mNext)
    (mRet (mOp kEqE (mFr (mComp (mRng1 (mCall kLen (aCons (mVal 1) aNil))) [2] (gNm 2) (mTNot (mT (mFn r (aCons (mOp kIx (mVal 0) (mVal 2)) (aCons (mOp kIx (mVal 1) (mVal 2)) aNil))))) (mVal 2))) (mFr (mLst aNil))))) mNext)
    (mSeq (mIfS (mT (mOp kIs (mVal 1) (mC .non))) (mRet (mOp kIs (mVal 0) (mC .non))) mNext)
    (mSeq (mIfS (mT (mOp kIs (mVal 1) (mC (.bl true)))) (mRet (mOp kIs (mVal 0) (mC (.bl true)))) mNext)
    (mSeq (mIfS (mT (mOp kIs (mVal 1) (mC (.bl false)))) (mRet (mOp kIs (mVal 0) (mC (.bl false)))) mNext)
    (mSeq (mIfS (mT (mCall (kIsi objL exL ask) (aCons (mVal 1) (aCons (mC (.ty "str")) aNil)))) (mRet (mV (mTAnd (mT (mCall (kIsi objL exL ask) (aCons (mVal 0) (aCons (mC (.ty "str")) aNil)))) (mT (mOp kEq (mVal 0) (mVal 1)))))) mNext)
    (mRet (mV (mTAnd (mT (mCall (kIsi objL exL ask) (aCons (mVal 0) (aCons (mC (.ty "int")) aNil)))) (mTAnd (mTNot (mT (mCall (kIsi objL exL ask) (aCons (mVal 0) (aCons (mC (.ty "bool")) aNil))))) (mT (mOp kEq (mVal 0) (mVal 1))))))))))))
def m__law_is : Nat → FM
  | 0 => fun _ _ => .bad
  | n + 1 => mDef 3 (b__law_is (m__law_is n))
theorem sc__law_is : FnScope ["told", "due", "at"] ["told", "due"] (defScope s12) := ⟨rfl, rfl, rfl, by decide +kernel, rfl, by decide +kernel, by decide +kernel⟩
theorem fn__law_is {C : Ctx} {P : Program} {wd : World} {base : Heap} (h : FX C.K C.mg) (hx : C.ex = none) (n : Nat) : Fn C P wd base true "_law_is" (1 + n) 2 (m__law_is n) := by
  obtain ⟨fd, F⟩ := h.says.def_ 12 (d := d12) rfl
  have hb := (F.bindsN (ps := ["told", "due"]) fun _ _ _ _ _ _ us hl => match us, hl with | [_, _], _ => rfl)
  induction n with
  | zero => exact fn_bad F (h.glo 12) hb
  | succ n ih =>
    exact fn_of (N := ["told", "due", "at"]) (m := b__law_is (m__law_is n)) (k := 1 + n) F (h.glo 12) sc__law_is hx hb fun cdv A outer s H E w =>
    (sm_cons (sm_if (tm_val (pm_isi rfl (Hot.none w.cold) (ask_ok h) askT_c (clss_ok h) (h.free 56) (bm_cons (pb (pm_val 1)) (bm_cons (pb (pm_gty (h.free 62) (by with_unfolding_all rfl))) bm_nil)))) (sm_cons (sm_if (wm_or (tm_not (tm_val (pm_isi rfl (Hot.none w.cold) (ask_ok h) askT_c (clss_ok h) (h.free 56) (bm_cons (pb (pm_val 0)) (bm_cons (pb (pm_gty (h.free 62) (by with_unfolding_all rfl))) bm_nil))))) (wm_or1 (tm_ne w.hu (pb (pm_len (h.free 57) (pb (pm_val 0)))) (pb (pm_len (h.free 57) (pb (pm_val 1))))))).pt (sm_one (sm_ret pm_bl)) sm_nil)
    (sm_one (sm_ret (pm_eqE w.hu (pfb (pm_lc rfl sc__law_is.nd (im_range1 (h.free 59) (pb (pm_len (h.free 57) (pb (pm_val 1))))) (own := [("at", 2)]) (blk_of (by kernel_rfl)) (fun s H Cb cl fp => (gm_name 2 sc__law_is.nd)) (fun s H Cb cl fp => (tms_one (tm_not (tm_val (pm_call ih (w.blk s H _ Cb cl fp) (Nat.le_refl _) (fun _ => rfl) (am_cons (pm_ix (pb (pm_val 0)) (pb (pm_val 2))) (am_cons (pm_ix (pb (pm_val 1)) (pb (pm_val 2))) am_nil)) (al (al a0))))))) (fun s H Cb cl fp => (pm_val 2)))) (pfb (pm_lst am_nil)))))) sm_nil)
    (sm_cons (sm_if (tm_is (pb (pm_val 1)) (pb pm_non)) (sm_one (sm_ret (pm_is (pb (pm_val 0)) (pb pm_non)))) sm_nil)
    (sm_cons (sm_if (tm_is (pb (pm_val 1)) (pb pm_bl)) (sm_one (sm_ret (pm_is (pb (pm_val 0)) (pb pm_bl)))) sm_nil)
    (sm_cons (sm_if (tm_is (pb (pm_val 1)) (pb pm_bl)) (sm_one (sm_ret (pm_is (pb (pm_val 0)) (pb pm_bl)))) sm_nil)
    (sm_cons (sm_if (tm_val (pm_isi rfl (Hot.none w.cold) (ask_ok h) askT_c (clss_ok h) (h.free 56) (bm_cons (pb (pm_val 1)) (bm_cons (pb (pm_gty (h.free 61) (by with_unfolding_all rfl))) bm_nil)))) (sm_one (sm_ret (vm_and (vm (pm_isi rfl (Hot.none w.cold) (ask_ok h) askT_c (clss_ok h) (h.free 56) (bm_cons (pb (pm_val 0)) (bm_cons (pb (pm_gty (h.free 61) (by with_unfolding_all rfl))) bm_nil)))) (vm_one (vm (pm_eq w.hu (pb (pm_val 0)) (pb (pm_val 1)))))))) sm_nil)
    (sm_one (sm_ret (vm_and (vm (pm_isi rfl (Hot.none w.cold) (ask_ok h) askT_c (clss_ok h) (h.free 56) (bm_cons (pb (pm_val 0)) (bm_cons (pb (pm_gty (h.free 55) (by with_unfolding_all rfl))) bm_nil)))) (vm_and (vm_not (vm (pm_isi rfl (Hot.none w.cold) (ask_ok h) askT_c (clss_ok h) (h.free 56) (bm_cons (pb (pm_val 0)) (bm_cons (pb (pm_gty (h.free 54) (by with_unfolding_all rfl))) bm_nil))))) (vm_one (vm (pm_eq w.hu (pb (pm_val 0)) (pb (pm_val 1))))))))))))))
def b__law_divisor : SM :=
    (mSeq (mPar2 0 1 (sVal (mCall kAbs (aCons (mVal 0) aNil)) (sVal (mCall kAbs (aCons (mVal 1) aNil)) sNil)))
    (mSeq (mWhile (fuelI 1) (mT (mOp kNe (mVal 1) (mC (.int 0))))
    (mPar2 0 1 (sVal (mVal 1) (sVal (mOp kMod (mCall kInt1 (aCons (mVal 0) aNil)) (mVal 1)) sNil))))
    (mRet (mVal 0))))
def m__law_divisor : FM := mDef 2 b__law_divisor
theorem sc__law_divisor : FnScope ["one", "other"] ["one", "other"] (defScope s13) := ⟨rfl, rfl, rfl, by decide +kernel, rfl, by decide +kernel, by decide +kernel⟩
theorem fn__law_divisor {C : Ctx} {P : Program} {wd : World} {base : Heap} (h : FX C.K C.mg) (hx : C.ex = none) : Fn C P wd base true "_law_divisor" 1 2 m__law_divisor := by
  obtain ⟨fd, F⟩ := h.says.def_ 13 (d := d13) rfl
  exact fn_of (N := ["one", "other"]) (m := b__law_divisor) F (h.glo 13) sc__law_divisor hx (F.bindsN (ps := ["one", "other"]) fun _ _ _ _ _ _ us hl => match us, hl with | [_, _], _ => rfl) fun cdv A outer s H E w =>
    (sm_cons (sm_par2 0 1 rfl sc__law_divisor.nd (as_val (pm_abs (h.free 52) (pb (pm_val 0))) (as_val (pm_abs (h.free 52) (pb (pm_val 1))) as_nil)))
    (sm_cons (sm_while (fuelI 1) (passes_of rfl) (tm_ne w.hu (pb (pm_val 1)) (pb pm_int))
    (sm_one (sm_par2 0 1 rfl sc__law_divisor.nd (as_val (pm_val 1) (as_val (pm_mod (pb (pm_int1 (h.free 55) (pb (pm_val 0)))) (pb (pm_val 1))) as_nil)))))
    (sm_one (sm_ret (pm_val 0)))))
def b__law_low : SM :=
    (mSeq (mSet (mFn m__law_divisor (aCons (mVal 0) (aCons (mVal 1) aNil))) (gNm 2))
    (mSeq (mIfS (mT (mOp kLt (mVal 1) (mC (.int 0)))) (mSet (mNeg (mVal 2)) (gNm 2)) mNext)
    (mRet (mIf (mT (mOp kEq (mVal 1) (mVal 2))) (mOp kDiv (mVal 0) (mVal 2)) (mTup (aCons (mOp kDiv (mVal 0) (mVal 2)) (aCons (mOp kDiv (mVal 1) (mVal 2)) aNil)))))))
def m__law_low : FM := mDef 3 b__law_low
theorem sc__law_low : FnScope ["top", "bottom", "by"] ["top", "bottom"] (defScope s14) := ⟨rfl, rfl, rfl, by decide +kernel, rfl, by decide +kernel, by decide +kernel⟩
theorem fn__law_low {C : Ctx} {P : Program} {wd : World} {base : Heap} (h : FX C.K C.mg) (hx : C.ex = none) : Fn C P wd base true "_law_low" 2 2 m__law_low := by
  obtain ⟨fd, F⟩ := h.says.def_ 14 (d := d14) rfl
  exact fn_of (N := ["top", "bottom", "by"]) (m := b__law_low) F (h.glo 14) sc__law_low hx (F.bindsN (ps := ["top", "bottom"]) fun _ _ _ _ _ _ us hl => match us, hl with | [_, _], _ => rfl) fun cdv A outer s H E w =>
    (sm_cons (sm_set 2 sc__law_low.nd (pm_call (fn__law_divisor (C := C) h w.cold) w (by decide) (fun _ => rfl) (am_cons (pm_val 0) (am_cons (pm_val 1) am_nil)) (al (al a0))))
    (sm_cons (sm_if (tm_lt (pb (pm_val 1)) (pb pm_int)) (sm_one (sm_set 2 sc__law_low.nd (pm_neg (pb (pm_val 2))))) sm_nil)
    (sm_one (sm_ret (pm_if (tm_eq w.hu (pb (pm_val 1)) (pb (pm_val 2))) (pm_div (pb (pm_val 0)) (pb (pm_val 2))) (pm_tup (am_cons (pm_div (pb (pm_val 0)) (pb (pm_val 2))) (am_cons (pm_div (pb (pm_val 1)) (pb (pm_val 2))) am_nil))))))))
def b__law_pair : SM :=
    (mRet (mIf (mT (mCall (kIsi objL exL ask) (aCons (mVal 0) (aCons (mC (.ty "int")) aNil)))) (mTup (aCons (mVal 0) (aCons (mC (.int 1)) aNil))) (mVal 0)))
def m__law_pair : FM := mDef 1 b__law_pair
theorem sc__law_pair : FnScope ["number"] ["number"] (defScope s15) := ⟨rfl, rfl, rfl, by decide +kernel, rfl, by decide +kernel, by decide +kernel⟩
theorem fn__law_pair {C : Ctx} {P : Program} {wd : World} {base : Heap} (h : FX C.K C.mg) (hx : C.ex = none) : Fn C P wd base true "_law_pair" 1 1 m__law_pair := by
  obtain ⟨fd, F⟩ := h.says.def_ 15 (d := d15) rfl
  exact fn_of (N := ["number"]) (m := b__law_pair) F (h.glo 15) sc__law_pair hx (F.bindsN (ps := ["number"]) fun _ _ _ _ _ _ us hl => match us, hl with | [_], _ => rfl) fun cdv A outer s H E w =>
    (sm_one (sm_ret (pm_if (tm_val (pm_isi rfl (Hot.none w.cold) (ask_ok h) askT_c (clss_ok h) (h.free 56) (bm_cons (pb (pm_val 0)) (bm_cons (pb (pm_gty (h.free 55) (by with_unfolding_all rfl))) bm_nil)))) (pm_tup (am_cons (pm_val 0) (am_cons pm_int am_nil))) (pm_val 0))))
def b__law_plus : SM :=
    (mSeq (mPar2 2 3 (sVal (mFn m__law_pair (aCons (mVal 0) aNil)) (sVal (mFn m__law_pair (aCons (mVal 1) aNil)) sNil)))
    (mRet (mFn m__law_low (aCons (mOp kAdd (mOp kMul (mOp kIx (mVal 2) (mC (.int 0))) (mOp kIx (mVal 3) (mC (.int 1)))) (mOp kMul (mOp kIx (mVal 3) (mC (.int 0))) (mOp kIx (mVal 2) (mC (.int 1))))) (aCons (mOp kMul (mOp kIx (mVal 2) (mC (.int 1))) (mOp kIx (mVal 3) (mC (.int 1)))) aNil)))))
def m__law_plus : FM := mDef 4 b__law_plus
theorem sc__law_plus : FnScope ["one", "other", "first", "second"] ["one", "other"] (defScope s16) := ⟨rfl, rfl, rfl, by decide +kernel, rfl, by decide +kernel, by decide +kernel⟩
theorem fn__law_plus {C : Ctx} {P : Program} {wd : World} {base : Heap} (h : FX C.K C.mg) (hx : C.ex = none) : Fn C P wd base true "_law_plus" 3 2 m__law_plus := by
  obtain ⟨fd, F⟩ := h.says.def_ 16 (d := d16) rfl
  exact fn_of (N := ["one", "other", "first", "second"]) (m := b__law_plus) F (h.glo 16) sc__law_plus hx (F.bindsN (ps := ["one", "other"]) fun _ _ _ _ _ _ us hl => match us, hl with | [_, _], _ => rfl) fun cdv A outer s H E w =>
    (sm_cons (sm_par2 2 3 rfl sc__law_plus.nd (as_val (pm_call (fn__law_pair (C := C) h w.cold) w (by decide) (fun _ => rfl) (am_cons (pm_val 0) am_nil) (al a0)) (as_val (pm_call (fn__law_pair (C := C) h w.cold) w (by decide) (fun _ => rfl) (am_cons (pm_val 1) am_nil) (al a0)) as_nil)))
    (sm_one (sm_ret (pm_call (fn__law_low (C := C) h w.cold) w (by decide) (fun _ => rfl) (am_cons (pm_add (pb (pm_mul (pb (pm_ix (pb (pm_val 2)) (pb pm_int))) (pb (pm_ix (pb (pm_val 3)) (pb pm_int))))) (pb (pm_mul (pb (pm_ix (pb (pm_val 3)) (pb pm_int))) (pb (pm_ix (pb (pm_val 2)) (pb pm_int)))))) (am_cons (pm_mul (pb (pm_ix (pb (pm_val 2)) (pb pm_int))) (pb (pm_ix (pb (pm_val 3)) (pb pm_int)))) am_nil)) (al (al a0))))))
def b__law_opposite : SM :=
    (mRet (mIf (mT (mCall (kIsi objL exL ask) (aCons (mVal 0) (aCons (mC (.ty "int")) aNil)))) (mNeg (mVal 0)) (mTup (aCons (mNeg (mOp kIx (mVal 0) (mC (.int 0)))) (aCons (mOp kIx (mVal 0) (mC (.int 1))) aNil)))))
def m__law_opposite : FM := mDef 1 b__law_opposite
theorem sc__law_opposite : FnScope ["number"] ["number"] (defScope s17) := ⟨rfl, rfl, rfl, by decide +kernel, rfl, by decide +kernel, by decide +kernel⟩
theorem fn__law_opposite {C : Ctx} {P : Program} {wd : World} {base : Heap} (h : FX C.K C.mg) (hx : C.ex = none) : Fn C P wd base true "_law_opposite" 1 1 m__law_opposite := by
  obtain ⟨fd, F⟩ := h.says.def_ 17 (d := d17) rfl
  exact fn_of (N := ["number"]) (m := b__law_opposite) F (h.glo 17) sc__law_opposite hx (F.bindsN (ps := ["number"]) fun _ _ _ _ _ _ us hl => match us, hl with | [_], _ => rfl) fun cdv A outer s H E w =>
    (sm_one (sm_ret (pm_if (tm_val (pm_isi rfl (Hot.none w.cold) (ask_ok h) askT_c (clss_ok h) (h.free 56) (bm_cons (pb (pm_val 0)) (bm_cons (pb (pm_gty (h.free 55) (by with_unfolding_all rfl))) bm_nil)))) (pm_neg (pb (pm_val 0))) (pm_tup (am_cons (pm_neg (pb (pm_ix (pb (pm_val 0)) (pb pm_int)))) (am_cons (pm_ix (pb (pm_val 0)) (pb pm_int)) am_nil))))))
def b__law_minus : SM :=
    (mRet (mFn m__law_plus (aCons (mVal 0) (aCons (mFn m__law_opposite (aCons (mVal 1) aNil)) aNil))))
def m__law_minus : FM := mDef 2 b__law_minus
theorem sc__law_minus : FnScope ["one", "other"] ["one", "other"] (defScope s18) := ⟨rfl, rfl, rfl, by decide +kernel, rfl, by decide +kernel, by decide +kernel⟩
theorem fn__law_minus {C : Ctx} {P : Program} {wd : World} {base : Heap} (h : FX C.K C.mg) (hx : C.ex = none) : Fn C P wd base true "_law_minus" 4 2 m__law_minus := by
  obtain ⟨fd, F⟩ := h.says.def_ 18 (d := d18) rfl
  exact fn_of (N := ["one", "other"]) (m := b__law_minus) F (h.glo 18) sc__law_minus hx (F.bindsN (ps := ["one", "other"]) fun _ _ _ _ _ _ us hl => match us, hl with | [_, _], _ => rfl) fun cdv A outer s H E w =>
    (sm_one (sm_ret (pm_call (fn__law_plus (C := C) h w.cold) w (by decide) (fun _ => rfl) (am_cons (pm_val 0) (am_cons (pm_call (fn__law_opposite (C := C) h w.cold) w (by decide) (fun _ => rfl) (am_cons (pm_val 1) am_nil) (al a0)) am_nil)) (al (al a0)))))
def b__law_times : SM :=
    (mSeq (mPar2 2 3 (sVal (mFn m__law_pair (aCons (mVal 0) aNil)) (sVal (mFn m__law_pair (aCons (mVal 1) aNil)) sNil)))
    (mRet (mFn m__law_low (aCons (mOp kMul (mOp kIx (mVal 2) (mC (.int 0))) (mOp kIx (mVal 3) (mC (.int 0)))) (aCons (mOp kMul (mOp kIx (mVal 2) (mC (.int 1))) (mOp kIx (mVal 3) (mC (.int 1)))) aNil)))))
def m__law_times : FM := mDef 4 b__law_times
theorem sc__law_times : FnScope ["one", "other", "first", "second"] ["one", "other"] (defScope s19) := ⟨rfl, rfl, rfl, by decide +kernel, rfl, by decide +kernel, by decide +kernel⟩
theorem fn__law_times {C : Ctx} {P : Program} {wd : World} {base : Heap} (h : FX C.K C.mg) (hx : C.ex = none) : Fn C P wd base true "_law_times" 3 2 m__law_times := by
  obtain ⟨fd, F⟩ := h.says.def_ 19 (d := d19) rfl
  exact fn_of (N := ["one", "other", "first", "second"]) (m := b__law_times) F (h.glo 19) sc__law_times hx (F.bindsN (ps := ["one", "other"]) fun _ _ _ _ _ _ us hl => match us, hl with | [_, _], _ => rfl) fun cdv A outer s H E w =>
    (sm_cons (sm_par2 2 3 rfl sc__law_times.nd (as_val (pm_call (fn__law_pair (C := C) h w.cold) w (by decide) (fun _ => rfl) (am_cons (pm_val 0) am_nil) (al a0)) (as_val (pm_call (fn__law_pair (C := C) h w.cold) w (by decide) (fun _ => rfl) (am_cons (pm_val 1) am_nil) (al a0)) as_nil)))
    (sm_one (sm_ret (pm_call (fn__law_low (C := C) h w.cold) w (by decide) (fun _ => rfl) (am_cons (pm_mul (pb (pm_ix (pb (pm_val 2)) (pb pm_int))) (pb (pm_ix (pb (pm_val 3)) (pb pm_int)))) (am_cons (pm_mul (pb (pm_ix (pb (pm_val 2)) (pb pm_int))) (pb (pm_ix (pb (pm_val 3)) (pb pm_int)))) am_nil)) (al (al a0))))))
def b__law_over : SM :=
    (mSeq (mPar2 2 3 (sVal (mFn m__law_pair (aCons (mVal 0) aNil)) (sVal (mFn m__law_pair (aCons (mVal 1) aNil)) sNil)))
    (mRet (mFn m__law_low (aCons (mOp kMul (mOp kIx (mVal 2) (mC (.int 0))) (mOp kIx (mVal 3) (mC (.int 1)))) (aCons (mOp kMul (mOp kIx (mVal 2) (mC (.int 1))) (mOp kIx (mVal 3) (mC (.int 0)))) aNil)))))
def m__law_over : FM := mDef 4 b__law_over
theorem sc__law_over : FnScope ["one", "other", "first", "second"] ["one", "other"] (defScope s20) := ⟨rfl, rfl, rfl, by decide +kernel, rfl, by decide +kernel, by decide +kernel⟩
theorem fn__law_over {C : Ctx} {P : Program} {wd : World} {base : Heap} (h : FX C.K C.mg) (hx : C.ex = none) : Fn C P wd base true "_law_over" 3 2 m__law_over := by
  obtain ⟨fd, F⟩ := h.says.def_ 20 (d := d20) rfl
  exact fn_of (N := ["one", "other", "first", "second"]) (m := b__law_over) F (h.glo 20) sc__law_over hx (F.bindsN (ps := ["one", "other"]) fun _ _ _ _ _ _ us hl => match us, hl with | [_, _], _ => rfl) fun cdv A outer s H E w =>
    (sm_cons (sm_par2 2 3 rfl sc__law_over.nd (as_val (pm_call (fn__law_pair (C := C) h w.cold) w (by decide) (fun _ => rfl) (am_cons (pm_val 0) am_nil) (al a0)) (as_val (pm_call (fn__law_pair (C := C) h w.cold) w (by decide) (fun _ => rfl) (am_cons (pm_val 1) am_nil) (al a0)) as_nil)))
    (sm_one (sm_ret (pm_call (fn__law_low (C := C) h w.cold) w (by decide) (fun _ => rfl) (am_cons (pm_mul (pb (pm_ix (pb (pm_val 2)) (pb pm_int))) (pb (pm_ix (pb (pm_val 3)) (pb pm_int)))) (am_cons (pm_mul (pb (pm_ix (pb (pm_val 2)) (pb pm_int))) (pb (pm_ix (pb (pm_val 3)) (pb pm_int)))) am_nil)) (al (al a0))))))
def b__law_more_kinds : SM :=
    (mSeq (mSetO (mLst aNil) 1)
    (mSeq (mIfS (mT (mCall (kIsi objL exL ask) (aCons (mVal 0) (aCons (mC (.fn "NoName")) aNil)))) (mApp 1 (mTup (aCons (mC (.str "noname")) (aCons (mCall kRepr (aCons (mExf exL "name" (mVal 0)) aNil)) aNil)))) mNext)
    (mSeq (mIfS (mT (mCall (kIsi objL exL ask) (aCons (mVal 0) (aCons (mC (.fn "TakenName")) aNil)))) (mApp 1 (mTup (aCons (mC (.str "taken")) (aCons (mCall kRepr (aCons (mExf exL "name" (mVal 0)) aNil)) aNil)))) mNext)
    (mSeq (mIfS (mT (mCall (kIsi objL exL ask) (aCons (mVal 0) (aCons (mC (.fn "Unlike")) aNil)))) (mApp 1 (mTup (aCons (mC (.str "unlike")) (aCons (mExf exL "what" (mVal 0)) aNil)))) mNext)
    (mSeq (mIfS (mT (mCall (kIsi objL exL ask) (aCons (mVal 0) (aCons (mC (.fn "NotThere")) aNil)))) (mApp 1 (mTup (aCons (mC (.str "notthere")) (aCons (mExf exL "paper" (mVal 0)) aNil)))) mNext)
    (mSeq (mIfS (mT (mCall (kIsi objL exL ask) (aCons (mVal 0) (aCons (mC (.fn "TooMany")) aNil)))) (mApp 1 (mTup (aCons (mC (.str "many")) (aCons (mExf exL "what" (mVal 0)) (aCons (mExf exL "many" (mVal 0)) (aCons (mExf exL "limit" (mVal 0)) aNil)))))) mNext)
    (mSeq (mIfS (mT (mCall (kIsi objL exL ask) (aCons (mVal 0) (aCons (mC (.fn "NotKept")) aNil)))) (mApp 1 (mTup (aCons (mC (.str "kept")) (aCons (mExf exL "promise" (mVal 0)) (aCons (mExf exL "witness" (mVal 0)) aNil))))) mNext)
    (mSeq (mIfS (mT (mCall (kIsi objL exL ask) (aCons (mVal 0) (aCons (mC (.fn "NothingToUndo")) aNil)))) (mApp 1 (mTup (aCons (mC (.str "undo")) aNil))) mNext)
    (mSeq (mIfS (mT (mCall (kIsi objL exL ask) (aCons (mVal 0) (aCons (mC (.fn "NothingToRedo")) aNil)))) (mApp 1 (mTup (aCons (mC (.str "redo")) aNil))) mNext)
    (mFrzS 1 (mRet (mVal 1))))))))))))
def m__law_more_kinds : FM := mDefQ 2 b__law_more_kinds
theorem sc__law_more_kinds : FnScope ["e", "found"] ["e"] (defScope s23) := ⟨rfl, rfl, rfl, by decide +kernel, rfl, by decide +kernel, by decide +kernel⟩
theorem fx__law_more_kinds {C : Ctx} {P : Program} {wd : World} {base : Heap} (h : FX C.K C.mg) : FnX C P wd base "_law_more_kinds" 1 1 m__law_more_kinds := by
  obtain ⟨fd, F⟩ := h.says.def_ 23 (d := d23) rfl
  exact fnX_of (N := ["e", "found"]) (m := b__law_more_kinds) F (h.glo 23) sc__law_more_kinds (F.bindsN (ps := ["e"]) fun _ _ _ _ _ _ us hl => match us, hl with | [_], _ => rfl) fun cdv A outer s H E p w =>
    (sm_cons (sm_setO 1 sc__law_more_kinds.nd (pm_lst am_nil))
    (sm_cons (sm_if (tm_val (pm_isi rfl w.hot (ask_ok h) askT_c (clss_ok h) (h.free 56) (bm_cons (pb (pm_val 0)) (bm_cons (pb (pm_gfn rfl (h.glo 39))) bm_nil)))) (sm_one (sm_app 1 (pm_tup (am_cons pm_str (am_cons (pm_repr w.hu w.gd (h.free 60) (bm_cons (pb (pm_exf rfl w.hot (clss_ok h) (noat_name h) (pm_val 0))) bm_nil)) am_nil))))) sm_nil)
    (sm_cons (sm_if (tm_val (pm_isi rfl w.hot (ask_ok h) askT_c (clss_ok h) (h.free 56) (bm_cons (pb (pm_val 0)) (bm_cons (pb (pm_gfn rfl (h.glo 40))) bm_nil)))) (sm_one (sm_app 1 (pm_tup (am_cons pm_str (am_cons (pm_repr w.hu w.gd (h.free 60) (bm_cons (pb (pm_exf rfl w.hot (clss_ok h) (noat_name h) (pm_val 0))) bm_nil)) am_nil))))) sm_nil)
    (sm_cons (sm_if (tm_val (pm_isi rfl w.hot (ask_ok h) askT_c (clss_ok h) (h.free 56) (bm_cons (pb (pm_val 0)) (bm_cons (pb (pm_gfn rfl (h.glo 41))) bm_nil)))) (sm_one (sm_app 1 (pm_tup (am_cons pm_str (am_cons (pm_exf rfl w.hot (clss_ok h) (noat_what h) (pm_val 0)) am_nil))))) sm_nil)
    (sm_cons (sm_if (tm_val (pm_isi rfl w.hot (ask_ok h) askT_c (clss_ok h) (h.free 56) (bm_cons (pb (pm_val 0)) (bm_cons (pb (pm_gfn rfl (h.glo 42))) bm_nil)))) (sm_one (sm_app 1 (pm_tup (am_cons pm_str (am_cons (pm_exf rfl w.hot (clss_ok h) (noat_paper h) (pm_val 0)) am_nil))))) sm_nil)
    (sm_cons (sm_if (tm_val (pm_isi rfl w.hot (ask_ok h) askT_c (clss_ok h) (h.free 56) (bm_cons (pb (pm_val 0)) (bm_cons (pb (pm_gfn rfl (h.glo 43))) bm_nil)))) (sm_one (sm_app 1 (pm_tup (am_cons pm_str (am_cons (pm_exf rfl w.hot (clss_ok h) (noat_what h) (pm_val 0)) (am_cons (pm_exf rfl w.hot (clss_ok h) (noat_many h) (pm_val 0)) (am_cons (pm_exf rfl w.hot (clss_ok h) (noat_limit h) (pm_val 0)) am_nil))))))) sm_nil)
    (sm_cons (sm_if (tm_val (pm_isi rfl w.hot (ask_ok h) askT_c (clss_ok h) (h.free 56) (bm_cons (pb (pm_val 0)) (bm_cons (pb (pm_gfn rfl (h.glo 44))) bm_nil)))) (sm_one (sm_app 1 (pm_tup (am_cons pm_str (am_cons (pm_exf rfl w.hot (clss_ok h) (noat_promise h) (pm_val 0)) (am_cons (pm_exf rfl w.hot (clss_ok h) (noat_witness h) (pm_val 0)) am_nil)))))) sm_nil)
    (sm_cons (sm_if (tm_val (pm_isi rfl w.hot (ask_ok h) askT_c (clss_ok h) (h.free 56) (bm_cons (pb (pm_val 0)) (bm_cons (pb (pm_gfn rfl (h.glo 45))) bm_nil)))) (sm_one (sm_app 1 (pm_tup (am_cons pm_str am_nil)))) sm_nil)
    (sm_cons (sm_if (tm_val (pm_isi rfl w.hot (ask_ok h) askT_c (clss_ok h) (h.free 56) (bm_cons (pb (pm_val 0)) (bm_cons (pb (pm_gfn rfl (h.glo 46))) bm_nil)))) (sm_one (sm_app 1 (pm_tup (am_cons pm_str am_nil)))) sm_nil)
    (sm_one (s_frz 1 (sm_ret (pm_val 1)))))))))))))
def b__law_kinds : SM :=
    (mSeq (mSetO (mLst aNil) 1)
    (mSeq (mIfS (mT (mCall (kIsi objL exL ask) (aCons (mVal 0) (aCons (mC (.fn "BadNumber")) aNil)))) (mApp 1 (mTup (aCons (mC (.str "number")) (aCons (mExf exL "what" (mVal 0)) (aCons (mCall kRepr (aCons (mExf exL "number" (mVal 0)) aNil)) aNil))))) mNext)
    (mSeq (mIfS (mT (mCall (kIsi objL exL ask) (aCons (mVal 0) (aCons (mC (.fn "BadRow")) aNil)))) (mApp 1 (mTup (aCons (mC (.str "row")) (aCons (mExf exL "what" (mVal 0)) (aCons (mCall kRepr (aCons (mExf exL "row" (mVal 0)) aNil)) aNil))))) mNext)
    (mSeq (mIfS (mT (mCall (kIsi objL exL ask) (aCons (mVal 0) (aCons (mC (.fn "BadTable")) aNil)))) (mApp 1 (mTup (aCons (mC (.str "table")) (aCons (mExf exL "what" (mVal 0)) aNil)))) mNext)
    (mSeq (mIfS (mT (mCall (kIsi objL exL ask) (aCons (mVal 0) (aCons (mC (.fn "BadWeb")) aNil)))) (mApp 1 (mTup (aCons (mC (.str "web")) (aCons (mExf exL "what" (mVal 0)) aNil)))) mNext)
    (mSeq (mIfS (mT (mCall (kIsi objL exL ask) (aCons (mVal 0) (aCons (mC (.fn "BadLot")) aNil)))) (mApp 1 (mTup (aCons (mC (.str "lot")) (aCons (mExf exL "what" (mVal 0)) (aCons (mCall kRepr (aCons (mExf exL "lot" (mVal 0)) aNil)) aNil))))) mNext)
    (mSeq (mIfS (mT (mCall (kIsi objL exL ask) (aCons (mVal 0) (aCons (mC (.fn "BadName")) aNil)))) (mApp 1 (mTup (aCons (mC (.str "badname")) (aCons (mCall kRepr (aCons (mExf exL "name" (mVal 0)) aNil)) aNil)))) mNext)
    (mSeq (mIfS (mT (mCall (kIsi objL exL ask) (aCons (mVal 0) (aCons (mC (.fn "BadText")) aNil)))) (mApp 1 (mTup (aCons (mC (.str "text")) (aCons (mExf exL "line" (mVal 0)) (aCons (mExf exL "word" (mVal 0)) aNil))))) mNext)
    (mSeq (mIfS (mT (mCall (kIsi objL exL ask) (aCons (mVal 0) (aCons (mC (.fn "NoPlace")) aNil)))) (mApp 1 (mTup (aCons (mC (.str "place")) (aCons (mExf exL "what" (mVal 0)) (aCons (mCall kRepr (aCons (mExf exL "index" (mVal 0)) aNil)) aNil))))) mNext)
    (mRet (mOp kAdd (mOwn 1) (mFn (fun ds q => (m__law_more_kinds ds q).ne) (aCons (mVal 0) aNil)))))))))))))
def m__law_kinds : FM := mDefQ 2 b__law_kinds
theorem sc__law_kinds : FnScope ["e", "found"] ["e"] (defScope s22) := ⟨rfl, rfl, rfl, by decide +kernel, rfl, by decide +kernel, by decide +kernel⟩
theorem fx__law_kinds {C : Ctx} {P : Program} {wd : World} {base : Heap} (h : FX C.K C.mg) : FnX C P wd base "_law_kinds" 2 1 m__law_kinds := by
  obtain ⟨fd, F⟩ := h.says.def_ 22 (d := d22) rfl
  exact fnX_of (N := ["e", "found"]) (m := b__law_kinds) F (h.glo 22) sc__law_kinds (F.bindsN (ps := ["e"]) fun _ _ _ _ _ _ us hl => match us, hl with | [_], _ => rfl) fun cdv A outer s H E p w =>
    (sm_cons (sm_setO 1 sc__law_kinds.nd (pm_lst am_nil))
    (sm_cons (sm_if (tm_val (pm_isi rfl w.hot (ask_ok h) askT_c (clss_ok h) (h.free 56) (bm_cons (pb (pm_val 0)) (bm_cons (pb (pm_gfn rfl (h.glo 31))) bm_nil)))) (sm_one (sm_app 1 (pm_tup (am_cons pm_str (am_cons (pm_exf rfl w.hot (clss_ok h) (noat_what h) (pm_val 0)) (am_cons (pm_repr w.hu w.gd (h.free 60) (bm_cons (pb (pm_exf rfl w.hot (clss_ok h) (noat_number h) (pm_val 0))) bm_nil)) am_nil)))))) sm_nil)
    (sm_cons (sm_if (tm_val (pm_isi rfl w.hot (ask_ok h) askT_c (clss_ok h) (h.free 56) (bm_cons (pb (pm_val 0)) (bm_cons (pb (pm_gfn rfl (h.glo 32))) bm_nil)))) (sm_one (sm_app 1 (pm_tup (am_cons pm_str (am_cons (pm_exf rfl w.hot (clss_ok h) (noat_what h) (pm_val 0)) (am_cons (pm_repr w.hu w.gd (h.free 60) (bm_cons (pb (pm_exf rfl w.hot (clss_ok h) (noat_row h) (pm_val 0))) bm_nil)) am_nil)))))) sm_nil)
    (sm_cons (sm_if (tm_val (pm_isi rfl w.hot (ask_ok h) askT_c (clss_ok h) (h.free 56) (bm_cons (pb (pm_val 0)) (bm_cons (pb (pm_gfn rfl (h.glo 33))) bm_nil)))) (sm_one (sm_app 1 (pm_tup (am_cons pm_str (am_cons (pm_exf rfl w.hot (clss_ok h) (noat_what h) (pm_val 0)) am_nil))))) sm_nil)
    (sm_cons (sm_if (tm_val (pm_isi rfl w.hot (ask_ok h) askT_c (clss_ok h) (h.free 56) (bm_cons (pb (pm_val 0)) (bm_cons (pb (pm_gfn rfl (h.glo 34))) bm_nil)))) (sm_one (sm_app 1 (pm_tup (am_cons pm_str (am_cons (pm_exf rfl w.hot (clss_ok h) (noat_what h) (pm_val 0)) am_nil))))) sm_nil)
    (sm_cons (sm_if (tm_val (pm_isi rfl w.hot (ask_ok h) askT_c (clss_ok h) (h.free 56) (bm_cons (pb (pm_val 0)) (bm_cons (pb (pm_gfn rfl (h.glo 35))) bm_nil)))) (sm_one (sm_app 1 (pm_tup (am_cons pm_str (am_cons (pm_exf rfl w.hot (clss_ok h) (noat_what h) (pm_val 0)) (am_cons (pm_repr w.hu w.gd (h.free 60) (bm_cons (pb (pm_exf rfl w.hot (clss_ok h) (noat_lot h) (pm_val 0))) bm_nil)) am_nil)))))) sm_nil)
    (sm_cons (sm_if (tm_val (pm_isi rfl w.hot (ask_ok h) askT_c (clss_ok h) (h.free 56) (bm_cons (pb (pm_val 0)) (bm_cons (pb (pm_gfn rfl (h.glo 36))) bm_nil)))) (sm_one (sm_app 1 (pm_tup (am_cons pm_str (am_cons (pm_repr w.hu w.gd (h.free 60) (bm_cons (pb (pm_exf rfl w.hot (clss_ok h) (noat_name h) (pm_val 0))) bm_nil)) am_nil))))) sm_nil)
    (sm_cons (sm_if (tm_val (pm_isi rfl w.hot (ask_ok h) askT_c (clss_ok h) (h.free 56) (bm_cons (pb (pm_val 0)) (bm_cons (pb (pm_gfn rfl (h.glo 37))) bm_nil)))) (sm_one (sm_app 1 (pm_tup (am_cons pm_str (am_cons (pm_exf rfl w.hot (clss_ok h) (noat_line h) (pm_val 0)) (am_cons (pm_exf rfl w.hot (clss_ok h) (noat_word h) (pm_val 0)) am_nil)))))) sm_nil)
    (sm_cons (sm_if (tm_val (pm_isi rfl w.hot (ask_ok h) askT_c (clss_ok h) (h.free 56) (bm_cons (pb (pm_val 0)) (bm_cons (pb (pm_gfn rfl (h.glo 38))) bm_nil)))) (sm_one (sm_app 1 (pm_tup (am_cons pm_str (am_cons (pm_exf rfl w.hot (clss_ok h) (noat_what h) (pm_val 0)) (am_cons (pm_repr w.hu w.gd (h.free 60) (bm_cons (pb (pm_exf rfl w.hot (clss_ok h) (noat_index h) (pm_val 0))) bm_nil)) am_nil)))))) sm_nil)
    (sm_one (sm_ret (pm_add (pm_own 1) (pb (pm_callQ (fx__law_more_kinds (C := C) h) w (by decide) (am_cons (pm_val 0) am_nil) (al a0)))))))))))))))
def b__law_fault : BM := fun cb =>
    (mSeq (mSet (mC .non) (gNm 1))
    (mSeq (mTry exL 2 (mDrop (mClo 0 cb))
    (mSeq (mSet (mFn (fun ds q => (m__law_kinds ds q).ne) (aCons (mVal 2) aNil)) (gNm 1))
    (mSet (mIf (mTAnd (mT (mOp kEq (mCall kLen (aCons (mVal 1) aNil)) (mC (.int 1)))) (mT (mCall (kIsi objL exL ask) (aCons (mVal 2) (aCons (mC (.ty "ValueError")) aNil))))) (mOp kIx (mVal 1) (mC (.int 0))) (mTup (aCons (mC (.str "several")) (aCons (mCall kLen (aCons (mVal 1) aNil)) aNil)))) (gNm 1))))
    (mRet (mVal 1))))
theorem sc__law_fault : FnScope ["call", "found", "e"] ["call"] (defScope s21) := ⟨rfl, rfl, rfl, by decide +kernel, rfl, by decide +kernel, by decide +kernel⟩
theorem lam__law_fault {X : Cx} {C : Ctx} {W : WX} {k j : Nat} {nm : Str} {c T : Addr} {ps : Arguments} {body : Expr} {sc : Scope} {p lpos pos : Pos} {mb : EM} (h : FX C.K C.mg) (hK0 : C.K = X.K) (hM0 : C.mg = X.mg) (w : Wk X C W true j) (hcl : C.cl = none) (hlv : 3 ≤ k) (hkj : k + 2 ≤ j) (nmE : nm = X.env.qual ++ "<lambda>") (TB : LamX.TabB X.base X.mg c T) (hcode : X.env.code = .ref c) (hmT : (T, nm) ∈ C.T) (hu : ∀ p ∈ C.T, p.1 = T → p.2 = nm) (L : LamX.LamS X.env.scope sc) (hdef : defaultsOf ps X.env = ([], []))
    (hbind : ∀ (q : Str) (cl : List (Str × Addr)) (pm cv ctv : Value), bindArgs (PySem.W.kla_fn "<lambda>" q ps body sc cl pm cv ctv) ⟨[], []⟩ = pure [])
    (hbody : ∀ (v : Addr × Addr × Str × Hp) (A : Around) (outer : List PySem.Env) (s : Shared) (H : Hp) (E : XK) (f c2 : Addr), Wk (LamX.lamCx X A outer s H E sc f c2) (C.clos v) (fun cls d _ H => E cls d H) true k → PE (LamX.lamCx X A outer s H E sc f c2) body (rE (C.clos v) (fun cls d _ H => E cls d H) mb))
    (hg : Gl X "_law_fault" := by rfl) : PE X (.Call (.Name "_law_fault" p) [.Lambda ps body sc lpos] [] pos) (rE C W (mLam 3 b__law_fault mb)) := by
  obtain ⟨K, mg, pa, pl, T0, ex, cl, lt⟩ := C
  simp only at hK0 hM0
  subst hK0 hM0
  obtain ⟨fd, F⟩ := h.says.def_ 21 (d := d21) rfl
  exact pm_lam (Ng := ["call", "found", "e"]) w hcl hkj F (h.glo 21) (F.bindsN (ps := ["call"]) fun _ _ _ _ _ _ us hl => match us, hl with | [_], _ => rfl) sc__law_fault rfl (by first | exact Or.inl rfl | exact Or.inr (Or.inl rfl) | exact Or.inr (Or.inr rfl)) (fun cdg s H v cb act w =>
    (sm_cons (sm_set 1 sc__law_fault.nd pm_non)
    (sm_cons (sm_try w sc__law_fault.nd (h.glo 30) (exm_WebError h) (fun W1 pn xe w1 =>
    (sm_one (sm_expr (pb (act _ _ _ _ _ w1.tk)))))
    (fun a oe cls dd pn wH =>
    (sm_cons (sm_set 1 sc__law_fault.nd (pm_callQ (fx__law_kinds (C := (Ctx.clos ⟨X.K, X.mg, pa, pl, T0, ex, cl, lt⟩ v).hot (a, cls, dd)) h) wH (by omega) (am_cons (pm_val 2) am_nil) (al a0)))
    (sm_one (sm_set 1 sc__law_fault.nd (pm_if (wm_and (tm_eq wH.hu (pb (pm_len (h.free 57) (pb (pm_val 1)))) (pb pm_int)) (wm_and1 (tm_val (pm_isi rfl wH.hot (ask_ok h) askT_c (clss_ok h) (h.free 56) (bm_cons (pb (pm_val 2)) (bm_cons (pb (pm_gty (h.free 51) (by with_unfolding_all rfl))) bm_nil)))))).pt (pm_ix (pb (pm_val 1)) (pb pm_int)) (pm_tup (am_cons pm_str (am_cons (pm_len (h.free 57) (pb (pm_val 1))) am_nil)))))))))
    (sm_one (sm_ret (pm_val 1)))))) nmE TB hcode hmT hu L hdef hbind hbody hg
def b__law_worth : SM :=
    (mSeq (mPar2 1 2 (sOwn (mComp (mIt (mVal 0)) [3] (gNm 3) tmYes (mFr (mFCall kList (aCons (mVal 3) aNil)))) (sVal (mC (.int 1)) sNil)))
    (mSeq (mFor (mRng1 (mCall kLen (aCons (mOwn 1) aNil))) (gNm 4)
    (mSeq (mSetO (mComp (mRng2 (mVal 4) (mCall kLen (aCons (mOwn 1) aNil))) [6] (gNm 6) (mT (mOp kNe (mOp kIx (mOp kIx (mOwn 1) (mVal 6)) (mVal 4)) (mC (.int 0)))) (mVal 6)) 5)
    (mFrzS 5 (mSeq (mIfS (mT (mOp kEqE (mVal 5) (mFr (mLst aNil)))) (mRet (mC (.int 0))) mNext)
    (mSeq (mIfS (mT (mOp kNe (mOp kIx (mVal 5) (mC (.int 0))) (mVal 4))) (mSeq (mSetX (mTup (aCons (mOp kIx (mOwn 1) (mOp kIx (mVal 5) (mC (.int 0)))) (aCons (mOp kIx (mOwn 1) (mVal 4)) aNil))) (xTp 2 (xsCons (xIx 1 (mVal 4)) (xsCons (xIx 1 (mOp kIx (mVal 5) (mC (.int 0)))) xsNil))))
    (mSet (mFn m__law_opposite (aCons (mVal 2) aNil)) (gNm 2))) mNext)
    (mSeq (mSet (mFn m__law_times (aCons (mVal 2) (aCons (mOp kIx (mOp kIx (mOwn 1) (mVal 4)) (mVal 4)) aNil))) (gNm 2))
    (mFor (mRng2 (mOp kAdd (mVal 4) (mC (.int 1))) (mCall kLen (aCons (mOwn 1) aNil))) (gNm 6)
    (mSeq (mSet (mFn m__law_over (aCons (mOp kIx (mOp kIx (mOwn 1) (mVal 6)) (mVal 4)) (aCons (mOp kIx (mOp kIx (mOwn 1) (mVal 4)) (mVal 4)) aNil))) (gNm 7))
    (mSetIx 1 (mVal 6) (mFr (mComp (mZip (aCons (mOp kIx (mOwn 1) (mVal 6)) (aCons (mOp kIx (mOwn 1) (mVal 4)) aNil))) [8, 9] (gTp (gsCons (gNm 8) (gsCons (gNm 9) gsNil))) tmYes (mFn m__law_minus (aCons (mVal 8) (aCons (mFn m__law_times (aCons (mVal 7) (aCons (mVal 9) aNil))) aNil))))))))))))))
    (mRet (mVal 2))))
def m__law_worth : FM := mDef 10 b__law_worth
theorem sc__law_worth : FnScope ["rows", "work", "found", "row", "at", "heads", "k", "by", "one", "two"] ["rows"] (defScope s24) := ⟨rfl, rfl, rfl, by decide +kernel, rfl, by decide +kernel, by decide +kernel⟩
theorem fn__law_worth {C : Ctx} {P : Program} {wd : World} {base : Heap} (h : FX C.K C.mg) (hx : C.ex = none) : Fn C P wd base true "_law_worth" 5 1 m__law_worth := by
  obtain ⟨fd, F⟩ := h.says.def_ 24 (d := d24) rfl
  exact fn_of (N := ["rows", "work", "found", "row", "at", "heads", "k", "by", "one", "two"]) (m := b__law_worth) F (h.glo 24) sc__law_worth hx (F.bindsN (ps := ["rows"]) fun _ _ _ _ _ _ us hl => match us, hl with | [_], _ => rfl) fun cdv A outer s H E w =>
    (sm_cons (sm_parC2 1 2 rfl sc__law_worth.nd (as_own (pm_lc rfl sc__law_worth.nd (im_seqB (pb (pm_val 0))) (own := [("row", 3)]) (blk_of (by kernel_rfl)) (fun s H Cb cl fp => (gm_name 3 sc__law_worth.nd)) (fun s H Cb cl fp => tms_nil) (fun s H Cb cl fp => (pf (pm_list (h.free 58) (pb (pm_val 3)))))) (as_val pm_int as_nil)))
    (sm_cons (sm_for (passes_of rfl) rfl (im_range1 (h.free 59) (pb (pm_len (h.free 57) (pm_own 1)))) (gm_name 4 sc__law_worth.nd)
    (sm_cons (sm_setLc 5 rfl sc__law_worth.nd (im_range2 (h.free 59) (pb (pm_val 4)) (pb (pm_len (h.free 57) (pm_own 1)))) (own := [("k", 6)]) (blk_of (by kernel_rfl)) (fun s H Cb cl fp => (gm_name 6 sc__law_worth.nd)) (fun s H Cb cl fp => (tms_one (tm_ne (w.blk s H _ Cb cl fp).hu (pb (pm_ix (pb (pm_ix (pm_own 1) (pb (pm_val 6)))) (pb (pm_val 4)))) (pb pm_int)))) (fun s H Cb cl fp => (pm_val 6)))
    (ss_frz 5 (sm_cons (sm_if (tm_eqE w.hu (pb (pm_val 5)) (pfb (pm_lst am_nil))) (sm_one (sm_ret pm_int)) sm_nil)
    (sm_cons (sm_if (tm_ne w.hu (pb (pm_ix (pb (pm_val 5)) (pb pm_int))) (pb (pm_val 4))) (sm_cons (sm_asgX (pm_tup (am_cons (pm_ix (pm_own 1) (pb (pm_ix (pb (pm_val 5)) (pb pm_int)))) (am_cons (pm_ix (pm_own 1) (pb (pm_val 4))) am_nil))) (xm_tup (n := 2) rfl (xs_cons (xm_ix 1 (pb (pm_val 4))) (xs_cons (xm_ix 1 (pb (pm_ix (pb (pm_val 5)) (pb pm_int)))) xs_nil))))
    (sm_one (sm_set 2 sc__law_worth.nd (pm_call (fn__law_opposite (C := C) h w.cold) w (by decide) (fun _ => rfl) (am_cons (pm_val 2) am_nil) (al a0))))) sm_nil)
    (sm_cons (sm_set 2 sc__law_worth.nd (pm_call (fn__law_times (C := C) h w.cold) w (by decide) (fun _ => rfl) (am_cons (pm_val 2) (am_cons (pm_ix (pb (pm_ix (pm_own 1) (pb (pm_val 4)))) (pb (pm_val 4))) am_nil)) (al (al a0))))
    (sm_one (sm_for (passes_of rfl) rfl (im_range2 (h.free 59) (pb (pm_add (pb (pm_val 4)) (pb pm_int))) (pb (pm_len (h.free 57) (pm_own 1)))) (gm_name 6 sc__law_worth.nd)
    (sm_cons (sm_set 7 sc__law_worth.nd (pm_call (fn__law_over (C := C) h w.cold) w (by decide) (fun _ => rfl) (am_cons (pm_ix (pb (pm_ix (pm_own 1) (pb (pm_val 6)))) (pb (pm_val 4))) (am_cons (pm_ix (pb (pm_ix (pm_own 1) (pb (pm_val 4)))) (pb (pm_val 4))) am_nil)) (al (al a0))))
    (sm_one (sm_setIx 1 (pf (pm_lc rfl sc__law_worth.nd (im_zipB (h.free 63) (bm_cons (pb (pm_ix (pm_own 1) (pb (pm_val 6)))) (bm_cons (pb (pm_ix (pm_own 1) (pb (pm_val 4)))) bm_nil))) (own := [("one", 8), ("two", 9)]) (blk_of (by kernel_rfl)) (fun s H Cb cl fp => (gm_tup rfl (gms_cons (gm_name 8 sc__law_worth.nd) (gms_cons (gm_name 9 sc__law_worth.nd) gms_nil)) (gl (gl gl0)))) (fun s H Cb cl fp => tms_nil) (fun s H Cb cl fp => (pm_call (fn__law_minus (C := C) h w.cold) (w.blk s H _ Cb cl fp) (by decide) (fun _ => rfl) (am_cons (pm_val 8) (am_cons (pm_call (fn__law_times (C := C) h w.cold) (w.blk s H _ Cb cl fp) (by decide) (fun _ => rfl) (am_cons (pm_val 7) (am_cons (pm_val 9) am_nil)) (al (al a0))) am_nil)) (al (al a0)))))) (pb (pm_val 6)))))))))))))
    (sm_one (sm_ret (pm_val 2)))))
def b__law_whole_worth : SM :=
    (mRet (mFn m__law_worth (aCons (mFr (mComp (mIt (mVal 0)) [1] (gNm 1) tmYes (mFr (mFCall kList (aCons (mVal 1) aNil))))) aNil)))
def m__law_whole_worth : FM := mDef 2 b__law_whole_worth
theorem sc__law_whole_worth : FnScope ["rows", "row"] ["rows"] (defScope s25) := ⟨rfl, rfl, rfl, by decide +kernel, rfl, by decide +kernel, by decide +kernel⟩
theorem fn__law_whole_worth {C : Ctx} {P : Program} {wd : World} {base : Heap} (h : FX C.K C.mg) (hx : C.ex = none) : Fn C P wd base true "_law_whole_worth" 6 1 m__law_whole_worth := by
  obtain ⟨fd, F⟩ := h.says.def_ 25 (d := d25) rfl
  exact fn_of (N := ["rows", "row"]) (m := b__law_whole_worth) F (h.glo 25) sc__law_whole_worth hx (F.bindsN (ps := ["rows"]) fun _ _ _ _ _ _ us hl => match us, hl with | [_], _ => rfl) fun cdv A outer s H E w =>
    (sm_one (sm_ret (pm_call (fn__law_worth (C := C) h w.cold) w (by decide) (fun _ => rfl) (am_cons (pf (pm_lc rfl sc__law_whole_worth.nd (im_seqB (pb (pm_val 0))) (own := [("row", 1)]) (blk_of (by kernel_rfl)) (fun s H Cb cl fp => (gm_name 1 sc__law_whole_worth.nd)) (fun s H Cb cl fp => tms_nil) (fun s H Cb cl fp => (pf (pm_list (h.free 58) (pb (pm_val 1))))))) am_nil) (al a0))))
def b__law_fraction : SM :=
    (mSeq (mPar2 1 2 (sVal (mOp kIx (mVal 0) (mNeg (mC (.int 1)))) (sVal (mC (.int 1)) sNil)))
    (mSeq (mFor (mIt (mSlR (mSl (mVal 0) oNone (oSome (mNeg (mC (.int 1))))) oNone (oSome (mNeg (mC (.int 1)))))) (gNm 3)
    (mPar2 1 2 (sVal (mOp kSub (mOp kMul (mVal 3) (mVal 1)) (mVal 2)) (sVal (mVal 1) sNil))))
    (mRet (mTup (aCons (mVal 1) (aCons (mVal 2) aNil))))))
def m__law_fraction : FM := mDef 4 b__law_fraction
theorem sc__law_fraction : FnScope ["row", "p", "q", "x"] ["row"] (defScope s26) := ⟨rfl, rfl, rfl, by decide +kernel, rfl, by decide +kernel, by decide +kernel⟩
theorem fn__law_fraction {C : Ctx} {P : Program} {wd : World} {base : Heap} (h : FX C.K C.mg) (hx : C.ex = none) : Fn C P wd base true "_law_fraction" 1 1 m__law_fraction := by
  obtain ⟨fd, F⟩ := h.says.def_ 26 (d := d26) rfl
  exact fn_of (N := ["row", "p", "q", "x"]) (m := b__law_fraction) F (h.glo 26) sc__law_fraction hx (F.bindsN (ps := ["row"]) fun _ _ _ _ _ _ us hl => match us, hl with | [_], _ => rfl) fun cdv A outer s H E w =>
    (sm_cons (sm_par2 1 2 rfl sc__law_fraction.nd (as_val (pm_ix (pb (pm_val 0)) (pb (pm_neg (pb pm_int)))) (as_val pm_int as_nil)))
    (sm_cons (sm_for (passes_of rfl) rfl (im_seq (pm_slR (pb (pm_sl (pb (pm_val 0)) om_none (om_some (pb (pm_neg (pb pm_int)))))) om_none (om_some (pb (pm_neg (pb pm_int)))))) (gm_name 3 sc__law_fraction.nd)
    (sm_one (sm_par2 1 2 rfl sc__law_fraction.nd (as_val (pm_sub (pb (pm_mul (pb (pm_val 3)) (pb (pm_val 1)))) (pb (pm_val 2))) (as_val (pm_val 1) as_nil)))))
    (sm_one (sm_ret (pm_tup (am_cons (pm_val 1) (am_cons (pm_val 2) am_nil)))))))
def b__law_row_of : SM :=
    (mSeq (mSetO (mLst aNil) 2)
    (mSeq (mFor (mRng1 (mC (.int 500))) (gNm 3)
    (mSeq (mIfS (mT (mOp kEq (mVal 1) (mC (.int 0)))) mBrk mNext)
    (mSeq (mSet (mOp kSub (mC (.int 0)) (mOp kDiv (mOp kSub (mC (.int 0)) (mVal 0)) (mVal 1))) (gNm 4))
    (mSeq (mApp 2 (mVal 4))
    (mPar2 0 1 (sVal (mVal 1) (sVal (mOp kSub (mOp kMul (mVal 4) (mVal 1)) (mVal 0)) sNil)))))))
    (mRet (mCall kTuple (aCons (mOwn 2) aNil)))))
def m__law_row_of : FM := mDef 5 b__law_row_of
theorem sc__law_row_of : FnScope ["p", "q", "found", "lap", "x"] ["p", "q"] (defScope s27) := ⟨rfl, rfl, rfl, by decide +kernel, rfl, by decide +kernel, by decide +kernel⟩
theorem fn__law_row_of {C : Ctx} {P : Program} {wd : World} {base : Heap} (h : FX C.K C.mg) (hx : C.ex = none) : Fn C P wd base true "_law_row_of" 1 2 m__law_row_of := by
  obtain ⟨fd, F⟩ := h.says.def_ 27 (d := d27) rfl
  exact fn_of (N := ["p", "q", "found", "lap", "x"]) (m := b__law_row_of) F (h.glo 27) sc__law_row_of hx (F.bindsN (ps := ["p", "q"]) fun _ _ _ _ _ _ us hl => match us, hl with | [_, _], _ => rfl) fun cdv A outer s H E w =>
    (sm_cons (sm_setO 2 sc__law_row_of.nd (pm_lst am_nil))
    (sm_cons (sm_for (passes_of rfl) rfl (im_range1 (h.free 59) (pb pm_int)) (gm_name 3 sc__law_row_of.nd)
    (sm_cons (sm_if (tm_eq w.hu (pb (pm_val 1)) (pb pm_int)) (sm_one sm_break) sm_nil)
    (sm_cons (sm_set 4 sc__law_row_of.nd (pm_sub (pb pm_int) (pb (pm_div (pb (pm_sub (pb pm_int) (pb (pm_val 0)))) (pb (pm_val 1))))))
    (sm_cons (sm_app 2 (pm_val 4))
    (sm_one (sm_par2 0 1 rfl sc__law_row_of.nd (as_val (pm_val 1) (as_val (pm_sub (pb (pm_mul (pb (pm_val 4)) (pb (pm_val 1)))) (pb (pm_val 0))) as_nil))))))))
    (sm_one (sm_ret (pm_tuple (h.free 62) (pm_own 2))))))
def b__law_asked : SM :=
    (mSeq (mSet (mFn m__law_fraction (aCons (mVal 1) aNil)) (gTp (gsCons (gNm 2) (gsCons (gNm 3) gsNil))))
    (mSeq (mIfS (mTNot (mT (mFn (m__law_is 3) (aCons (mFn m_line_fraction (aCons (mFr (mFCall kList (aCons (mVal 1) aNil))) aNil)) (aCons (mTup (aCons (mVal 2) (aCons (mVal 3) aNil))) aNil))))) (mRet (mC (.bl false))) mNext)
    (mSeq (mIfS (mTAnd (mT (mOp kLt (mVal 2) (mOp kPow (mC (.int 10)) (mC (.int 60))))) (mTNot (mT (mFn (m__law_is 3) (aCons (mFn m_row_of_fraction (aCons (mVal 2) (aCons (mVal 3) aNil))) (aCons (mVal 1) aNil)))))) (mRet (mC (.bl false))) mNext)
    (mSeq (mSet (mFn m_line_fraction (aCons (mSlR (mVal 1) oNone (oSome (mNeg (mC (.int 1))))) aNil)) (gNm 4))
    (mSeq (mIfS (mTOr (mT (mOp kNe (mOp kIx (mVal 4) (mC (.int 0))) (mVal 2))) (mT (mOp kNe (mOp kMod (mCall kInt1 (aCons (mOp kSub (mOp kMul (mVal 3) (mOp kIx (mVal 4) (mC (.int 1)))) (mC (.int 1))) aNil)) (mVal 2)) (mC (.int 0))))) (mRet (mC (.bl false))) mNext)
    (mSeq (mSet (mCall kTuple (aCons (mFr (mComp (mRng1 (mCall kLen (aCons (mVal 1) aNil))) [7] (gNm 7) tmYes (mCall kTuple (aCons (mFr (mComp (mRng1 (mCall kLen (aCons (mVal 1) aNil))) [6] (gNm 6) tmYes (mIf (mT (mOp kEq (mVal 7) (mVal 6))) (mOp kIx (mVal 1) (mVal 7)) (mIf (mT (mOp kEq (mCall kAbs (aCons (mOp kSub (mVal 7) (mVal 6)) aNil)) (mC (.int 1)))) (mNeg (mC (.int 1))) (mC (.int 0)))))) aNil)))) aNil)) (gNm 5))
    (mRet (mV (mTAnd (mT (mFn (m__law_is 3) (aCons (mFn m_line_table (aCons (mVal 1) aNil)) (aCons (mVal 5) aNil)))) (mTOr (mT (mOp kGt (mCall kLen (aCons (mVal 1) aNil)) (mC (.int 7)))) (mT (mOp kEq (mFn m__law_whole_worth (aCons (mVal 5) aNil)) (mVal 2)))))))))))))
def m__law_asked : FM := mDef 8 b__law_asked
theorem sc__law_asked : FnScope ["pen", "row", "p", "q", "back", "due", "k", "i"] ["pen", "row"] (defScope s28) := ⟨rfl, rfl, rfl, by decide +kernel, rfl, by decide +kernel, by decide +kernel⟩
theorem fn__law_asked {C : Ctx} {P : Program} {wd : World} {base : Heap} (h : FX C.K C.mg) (hx : C.ex = none) : Fn C P wd base true "_law_asked" 7 2 m__law_asked := by
  obtain ⟨fd, F⟩ := h.says.def_ 28 (d := d28) rfl
  exact fn_of (N := ["pen", "row", "p", "q", "back", "due", "k", "i"]) (m := b__law_asked) F (h.glo 28) sc__law_asked hx (F.bindsN (ps := ["pen", "row"]) fun _ _ _ _ _ _ us hl => match us, hl with | [_, _], _ => rfl) fun cdv A outer s H E w =>
    (sm_cons (sm_asg (pm_call (fn__law_fraction (C := C) h w.cold) w (by decide) (fun _ => rfl) (am_cons (pm_val 1) am_nil) (al a0)) (gm_tup rfl (gms_cons (gm_name 2 sc__law_asked.nd) (gms_cons (gm_name 3 sc__law_asked.nd) gms_nil)) (gl (gl gl0))))
    (sm_cons (sm_if (tm_not (tm_val (pm_call (fn__law_is (C := C) h w.cold 3) w (by decide) (fun _ => rfl) (am_cons (pm_call (fn_line_fraction (C := C) h w.cold) w (by decide) (fun _ => rfl) (am_cons (pf (pm_list (h.free 58) (pb (pm_val 1)))) am_nil) (al a0)) (am_cons (pm_tup (am_cons (pm_val 2) (am_cons (pm_val 3) am_nil))) am_nil)) (al (al a0))))) (sm_one (sm_ret pm_bl)) sm_nil)
    (sm_cons (sm_if (wm_and (tm_lt (pb (pm_val 2)) (pb (pm_pow (pb pm_int) (pb pm_int)))) (wm_and1 (tm_not (tm_val (pm_call (fn__law_is (C := C) h w.cold 3) w (by decide) (fun _ => rfl) (am_cons (pm_call (fn_row_of_fraction (C := C) h w.cold) w (by decide) (fun _ => rfl) (am_cons (pm_val 2) (am_cons (pm_val 3) am_nil)) (al (al a0))) (am_cons (pm_val 1) am_nil)) (al (al a0))))))).pt (sm_one (sm_ret pm_bl)) sm_nil)
    (sm_cons (sm_set 4 sc__law_asked.nd (pm_call (fn_line_fraction (C := C) h w.cold) w (by decide) (fun _ => rfl) (am_cons (pm_slR (pb (pm_val 1)) om_none (om_some (pb (pm_neg (pb pm_int))))) am_nil) (al a0)))
    (sm_cons (sm_if (wm_or (tm_ne w.hu (pb (pm_ix (pb (pm_val 4)) (pb pm_int))) (pb (pm_val 2))) (wm_or1 (tm_ne w.hu (pb (pm_mod (pb (pm_int1 (h.free 55) (pb (pm_sub (pb (pm_mul (pb (pm_val 3)) (pb (pm_ix (pb (pm_val 4)) (pb pm_int))))) (pb pm_int))))) (pb (pm_val 2)))) (pb pm_int)))).pt (sm_one (sm_ret pm_bl)) sm_nil)
    (sm_cons (sm_set 5 sc__law_asked.nd (pm_tuple (h.free 62) (pfb (pm_lc rfl sc__law_asked.nd (im_range1 (h.free 59) (pb (pm_len (h.free 57) (pb (pm_val 1))))) (own := [("i", 7)]) (blk_of (by kernel_rfl)) (fun s H Cb cl fp => (gm_name 7 sc__law_asked.nd)) (fun s H Cb cl fp => tms_nil) (fun s H Cb cl fp => (pm_tuple (h.free 62) (pfb (pm_lc rfl sc__law_asked.nd (im_range1 (h.free 59) (pb (pm_len (h.free 57) (pb (pm_val 1))))) (own := [("k", 6)]) (blk_of (by kernel_rfl)) (fun s H Cb cl fp => (gm_name 6 sc__law_asked.nd)) (fun s H Cb cl fp => tms_nil) (fun s H Cb cl fp => (pm_if (tm_eq ((w.blk s H _ Cb cl fp).blk s H _ Cb cl fp).hu (pb (pm_val 7)) (pb (pm_val 6))) (pm_ix (pb (pm_val 1)) (pb (pm_val 7))) (pm_if (tm_eq ((w.blk s H _ Cb cl fp).blk s H _ Cb cl fp).hu (pb (pm_abs (h.free 52) (pb (pm_sub (pb (pm_val 7)) (pb (pm_val 6)))))) (pb pm_int)) (pm_neg (pb pm_int)) pm_int)))))))))))
    (sm_one (sm_ret (vm_and (vm (pm_call (fn__law_is (C := C) h w.cold 3) w (by decide) (fun _ => rfl) (am_cons (pm_call (fn_line_table (C := C) h w.cold) w (by decide) (fun _ => rfl) (am_cons (pm_val 1) am_nil) (al a0)) (am_cons (pm_val 5) am_nil)) (al (al a0)))) (vm_one (vm_or (vm (pm_gt (pb (pm_len (h.free 57) (pb (pm_val 1)))) (pb pm_int))) (vm_one (vm (pm_eq w.hu (pb (pm_call (fn__law_whole_worth (C := C) h w.cold) w (by decide) (fun _ => rfl) (am_cons (pm_val 5) am_nil) (al a0))) (pb (pm_val 2))))))))))))))))
def b1_law : SM := (mSet (mFn m__law_pen (aCons (mVal 0) aNil)) (gNm 1))
def b2_law : SM :=
    (mSeq (mFor (mRng1 (mC (.int 4))) (gNm 2)
    (mSeq (mSet (mFn m__law_pick (aCons (mVal 1) (aCons (mFr (mLst (aCons (mC (.int 2)) (aCons (mC (.int 5)) (aCons (mC (.int 30)) (aCons (mOp kPow (mC (.int 10)) (mC (.int 12))) aNil)))))) aNil))) (gNm 3))
    (mSeq (mSet (mCall kTuple (aCons (mFr (mComp (mRng1 (mOp kAdd (mC (.int 1)) (mFn m__law_draw (aCons (mVal 1) (aCons (mFn m__law_pick (aCons (mVal 1) (aCons (mFr (mLst (aCons (mC (.int 3)) (aCons (mC (.int 7)) (aCons (mC (.int 40)) aNil))))) aNil))) aNil))))) [5] (gNm 5) tmYes (mOp kAdd (mC (.int 2)) (mFn m__law_draw (aCons (mVal 1) (aCons (mVal 3) aNil)))))) aNil)) (gNm 4))
    (mSeq (mIfS (mTNot (mT (mFn m__law_asked (aCons (mVal 1) (aCons (mVal 4) aNil))))) (mRet (mC (.bl false))) mNext)
    (mSeq (mSet (mOp kAdd (mC (.int 2)) (mFn m__law_draw (aCons (mVal 1) (aCons (mFn m__law_pick (aCons (mVal 1) (aCons (mFr (mLst (aCons (mC (.int 50)) (aCons (mC (.int 1000)) (aCons (mOp kPow (mC (.int 10)) (mC (.int 30))) aNil))))) aNil))) aNil)))) (gNm 6))
    (mSeq (mSet (mOp kAdd (mC (.int 1)) (mFn m__law_draw (aCons (mVal 1) (aCons (mOp kSub (mVal 6) (mC (.int 1))) aNil)))) (gNm 7))
    (mSeq (mSet (mFn m__law_divisor (aCons (mVal 6) (aCons (mVal 7) aNil))) (gNm 8))
    (mSeq (mSet (mIf (mT (mOp kEq (mVal 8) (mC (.int 1)))) (mFn m__law_row_of (aCons (mVal 6) (aCons (mVal 7) aNil))) (mC .non)) (gNm 9))
    (mSeq (mIfS (mTAnd (mT (mOp kNe (mVal 8) (mC (.int 1)))) (mT (mOp kNe (mLam 3 b__law_fault (mFn m_row_of_fraction (aCons (mVal 6) (aCons (mVal 7) aNil)))) (mTup (aCons (mC (.str "number")) (aCons (mC (.str "q")) (aCons (mCall kRepr (aCons (mVal 7) aNil)) aNil))))))) (mRet (mC (.bl false))) mNext)
    (mSeq (mIfS (mTAnd (mT (mOp kEq (mVal 8) (mC (.int 1)))) (mTAnd (mT (mOp kLe (mCall kLen (aCons (mVal 9) aNil)) (mC (.int 400)))) (mTNot (mT (mFn (m__law_is 3) (aCons (mFn m_row_of_fraction (aCons (mVal 6) (aCons (mVal 7) aNil))) (aCons (mVal 9) aNil))))))) (mRet (mC (.bl false))) mNext)
    (mIfS (mTAnd (mT (mOp kEq (mVal 8) (mC (.int 1)))) (mTAnd (mT (mOp kGt (mCall kLen (aCons (mVal 9) aNil)) (mC (.int 400)))) (mT (mOp kNe (mLam 3 b__law_fault (mFn m_row_of_fraction (aCons (mVal 6) (aCons (mVal 7) aNil)))) (mTup (aCons (mC (.str "many")) (aCons (mC (.str "row")) (aCons (mC (.int 401)) (aCons (mC (.int 400)) aNil))))))))) (mRet (mC (.bl false))) mNext)))))))))))
    (mSeq (mSet (mOp kAdd (mC (.int 500)) (mFn m__law_draw (aCons (mVal 1) (aCons (mOp kPow (mC (.int 10)) (mC (.int 40))) aNil)))) (gNm 10))
    (mSeq (mIfS (mT (mOp kNe (mLam 3 b__law_fault (mFn m_row_of_fraction (aCons (mVal 10) (aCons (mOp kSub (mVal 10) (mC (.int 1))) aNil)))) (mTup (aCons (mC (.str "many")) (aCons (mC (.str "row")) (aCons (mC (.int 401)) (aCons (mC (.int 400)) aNil))))))) (mRet (mC (.bl false))) mNext)
    (mSeq (mFor (mIt (mFr (mLst (aCons (mC (.int 0)) (aCons (mC (.int 1)) (aCons (mNeg (mC (.int 3))) (aCons (mC .non) (aCons (mC (.bl true)) (aCons (mC (.str "3")) (aCons (mOp kPow (mC (.int 10)) (mC (.int 60))) aNil)))))))))) (gNm 11)
    (mIfS (mT (mOp kNe (mLam 3 b__law_fault (mFn m_row_of_fraction (aCons (mVal 11) (aCons (mC .non) aNil)))) (mTup (aCons (mC (.str "number")) (aCons (mC (.str "p")) (aCons (mCall kRepr (aCons (mVal 11) aNil)) aNil)))))) (mRet (mC (.bl false))) mNext))
    (mSeq (mFor (mIt (mFr (mLst (aCons (mC (.int 0)) (aCons (mC (.int 6)) (aCons (mC (.int 7)) (aCons (mC (.int 3)) (aCons (mNeg (mC (.int 1))) (aCons (mC .non) (aCons (mC (.bl true)) (aCons (mC (.str "1")) aNil))))))))))) (gNm 11)
    (mIfS (mT (mOp kNe (mLam 3 b__law_fault (mFn m_row_of_fraction (aCons (mC (.int 6)) (aCons (mVal 11) aNil)))) (mTup (aCons (mC (.str "number")) (aCons (mC (.str "q")) (aCons (mCall kRepr (aCons (mVal 11) aNil)) aNil)))))) (mRet (mC (.bl false))) mNext))
    (mSeq (mFor (mIt (mFr (mLst (aCons (mC .non) (aCons (mC (.int 3)) (aCons (mTup aNil) (aCons (mTup (aCons (mC (.int 1)) aNil)) (aCons (mTup (aCons (mC (.int 2)) (aCons (mC (.int 1)) aNil))) (aCons (mTup (aCons (mC (.int 2)) (aCons (mC .non) aNil))) (aCons (mTup (aCons (mC (.int 2)) (aCons (mC (.bl true)) aNil))) (aCons (mC (.str "23")) (aCons (mOp kMul (mTup (aCons (mC (.int 2)) aNil)) (mC (.int 401))) (aCons (mTup (aCons (mC (.int 2)) (aCons (mTup (aCons (mC (.int 2)) (aCons (mC (.int 3)) aNil))) aNil))) aNil))))))))))))) (gNm 11)
    (mFor (mIt (mTup (aCons (mC (.fn "line_fraction")) (aCons (mC (.fn "line_table")) aNil)))) (gNm 12)
    (mIfS (mT (mOp kNe (mLam 3 b__law_fault (mCallV 12 [("line_fraction", m_line_fraction), ("line_table", m_line_table)] (aCons (mVal 11) aNil))) (mTup (aCons (mC (.str "row")) (aCons (mC (.str "row")) (aCons (mCall kRepr (aCons (mVal 11) aNil)) aNil)))))) (mRet (mC (.bl false))) mNext)))
    (mRet (mV (mTAnd (mT (mFn (m__law_is 3) (aCons (mFn m_row_of_fraction (aCons (mC (.int 401)) (aCons (mC (.int 400)) aNil))) (aCons (mOp kMul (mTup (aCons (mC (.int 2)) aNil)) (mC (.int 400))) aNil)))) (mT (mFn (m__law_is 3) (aCons (mFn m_line_fraction (aCons (mTup (aCons (mC (.int 3)) (aCons (mC (.int 2)) aNil))) aNil)) (aCons (mTup (aCons (mC (.int 5)) (aCons (mC (.int 2)) aNil))) aNil)))))))))))))
def nLaw : Nat := 13
def ipLaw : Nat := 1
theorem sc_law : FnScope ["script", "pen", "lap", "size", "row", "k", "p", "q", "common", "due", "great", "odd", "call"] ["script"] (defScope s29) := ⟨rfl, rfl, rfl, by decide +kernel, rfl, by decide +kernel, by decide +kernel⟩
theorem fn_law_ {C : Ctx} {P : Program} {wd : World} {ok : List Int → Prop} {pen0 : List Int → Pen} (h : FX C.K C.mg) (hx : C.ex = none) (hp : C.pa = none) (hm1 : ∀ ns, ok ns → b1_law (env0 13 [.scr ns]) emptyPen = .next ((env0 13 [.scr ns]).set 1 (.val (.dct (penDs (pen0 ns))))) emptyPen)
    (hm2 : ∀ ns, ok ns → ∃ q, b2_law (envL 13 1) (pen0 ns) = .ret (.bl true) q) : ∃ fd, (∀ (s : Shared) (u : Value), BindsTo s fd ⟨[u], []⟩ [("script", u)]) ∧ ∀ base : Heap, TTl C base → FnA true P wd C.K C.mg base (L2.CX P wd) 8 (He.ga C.K "law") fd ["script"] (spLaw C ok) := by
  obtain ⟨fd, F⟩ := h.says.def_ 29 (d := d29) rfl
  have b := FunD.bindsA (ps := ["script"]) F fun _ _ _ _ _ _ us hl => match us, hl with | [_], _ => rfl
  refine ⟨fd, fun s u => b s [u] rfl, fun base tb => ?_⟩
  exact law_ofL (N := ["script", "pen", "lap", "size", "row", "k", "p", "q", "common", "due", "great", "odd", "call"]) (m1 := b1_law) (m2 := b2_law) (ip := 1) (p := ("law", none)) F sc_law hx hp (by decide) (by decide) (fun A outer s H E w =>
    (sm_set 1 sc_law.nd (pm_call (fn__law_pen (C := C) h w.cold) w (by decide) (fun _ => rfl) (am_cons (pm_val 0) am_nil) (al a0)))) (fun a l A outer s H E w =>
    (sm_cons (sm_for (passes_of rfl) rfl (im_range1 (h.free 59) (pb pm_int)) (gm_name 2 sc_law.nd)
    (sm_cons (sm_set 3 sc_law.nd (pm_call (fn__law_pick (C := (C.withPen a l)) h w.cold) w (by decide) (fun _ => rfl) (am_cons (pm_val 1) (am_cons (pf (pm_lst (am_cons pm_int (am_cons pm_int (am_cons pm_int (am_cons (pm_pow (pb pm_int) (pb pm_int)) am_nil)))))) am_nil)) (al (al a0))))
    (sm_cons (sm_set 4 sc_law.nd (pm_tuple (h.free 62) (pfb (pm_lc rfl sc_law.nd (im_range1 (h.free 59) (pb (pm_add (pb pm_int) (pb (pm_call (fn__law_draw (C := (C.withPen a l)) h w.cold) w (by decide) (fun _ => rfl) (am_cons (pm_val 1) (am_cons (pm_call (fn__law_pick (C := (C.withPen a l)) h w.cold) w (by decide) (fun _ => rfl) (am_cons (pm_val 1) (am_cons (pf (pm_lst (am_cons pm_int (am_cons pm_int (am_cons pm_int am_nil))))) am_nil)) (al (al a0))) am_nil)) (al (al a0))))))) (own := [("k", 5)]) (blk_of (by kernel_rfl)) (fun s H Cb cl fp => (gm_name 5 sc_law.nd)) (fun s H Cb cl fp => tms_nil) (fun s H Cb cl fp => (pm_add (pb pm_int) (pb (pm_call (fn__law_draw (C := (C.withPen a l)) h w.cold) (w.blk s H _ Cb cl fp) (by decide) (fun _ => rfl) (am_cons (pm_val 1) (am_cons (pm_val 3) am_nil)) (al (al a0))))))))))
    (sm_cons (sm_if (tm_not (tm_val (pm_call (fn__law_asked (C := (C.withPen a l)) h w.cold) w (by decide) (fun _ => rfl) (am_cons (pm_val 1) (am_cons (pm_val 4) am_nil)) (al (al a0))))) (sm_one (sm_ret pm_bl)) sm_nil)
    (sm_cons (sm_set 6 sc_law.nd (pm_add (pb pm_int) (pb (pm_call (fn__law_draw (C := (C.withPen a l)) h w.cold) w (by decide) (fun _ => rfl) (am_cons (pm_val 1) (am_cons (pm_call (fn__law_pick (C := (C.withPen a l)) h w.cold) w (by decide) (fun _ => rfl) (am_cons (pm_val 1) (am_cons (pf (pm_lst (am_cons pm_int (am_cons pm_int (am_cons (pm_pow (pb pm_int) (pb pm_int)) am_nil))))) am_nil)) (al (al a0))) am_nil)) (al (al a0))))))
    (sm_cons (sm_set 7 sc_law.nd (pm_add (pb pm_int) (pb (pm_call (fn__law_draw (C := (C.withPen a l)) h w.cold) w (by decide) (fun _ => rfl) (am_cons (pm_val 1) (am_cons (pm_sub (pb (pm_val 6)) (pb pm_int)) am_nil)) (al (al a0))))))
    (sm_cons (sm_set 8 sc_law.nd (pm_call (fn__law_divisor (C := (C.withPen a l)) h w.cold) w (by decide) (fun _ => rfl) (am_cons (pm_val 6) (am_cons (pm_val 7) am_nil)) (al (al a0))))
    (sm_cons (sm_set 9 sc_law.nd (pm_if (tm_eq w.hu (pb (pm_val 8)) (pb pm_int)) (pm_call (fn__law_row_of (C := (C.withPen a l)) h w.cold) w (by decide) (fun _ => rfl) (am_cons (pm_val 6) (am_cons (pm_val 7) am_nil)) (al (al a0))) pm_non))
    (sm_cons (sm_if (wm_and (tm_ne w.hu (pb (pm_val 8)) (pb pm_int)) (wm_and1 (tm_ne w.hu (pb (lam__law_fault (C := (C.withPen a l)) (k := 4) (nm := "law.<locals>.<lambda>") h rfl rfl w (tb.pen a l).cl (by decide) (by decide) rfl ((tb.pen a l).tb _ (mem_law)) rfl ((tb.pen a l).inT _ (mem_law)) ((tb.pen a l).one _ (mem_law)) (LamX.lamS_by (by kernel_rfl)) rfl (fun _ _ _ _ _ => rfl) (fun v A outer s H E f c wL =>
      (pm_call (fn_row_of_fraction (C := ((C.withPen a l).clos v)) h wL.cold) wL (by decide) (fun _ => rfl) (am_cons (pm_val 6) (am_cons (pm_val 7) am_nil)) (al (al a0)))))) (pb (pm_tup (am_cons pm_str (am_cons pm_str (am_cons (pm_repr w.hu (w.gd rfl) (h.free 60) (bm_cons (pb (pm_val 7)) bm_nil)) am_nil)))))))).pt (sm_one (sm_ret pm_bl)) sm_nil)
    (sm_cons (sm_if (wm_and (tm_eq w.hu (pb (pm_val 8)) (pb pm_int)) (wm_and (tm_le (pb (pm_len (h.free 57) (pb (pm_val 9)))) (pb pm_int)) (wm_and1 (tm_not (tm_val (pm_call (fn__law_is (C := (C.withPen a l)) h w.cold 3) w (by decide) (fun _ => rfl) (am_cons (pm_call (fn_row_of_fraction (C := (C.withPen a l)) h w.cold) w (by decide) (fun _ => rfl) (am_cons (pm_val 6) (am_cons (pm_val 7) am_nil)) (al (al a0))) (am_cons (pm_val 9) am_nil)) (al (al a0)))))))).pt (sm_one (sm_ret pm_bl)) sm_nil)
    (sm_one (sm_if (wm_and (tm_eq w.hu (pb (pm_val 8)) (pb pm_int)) (wm_and (tm_gt (pb (pm_len (h.free 57) (pb (pm_val 9)))) (pb pm_int)) (wm_and1 (tm_ne w.hu (pb (lam__law_fault (C := (C.withPen a l)) (k := 4) (nm := "law.<locals>.<lambda>") h rfl rfl w (tb.pen a l).cl (by decide) (by decide) rfl ((tb.pen a l).tb _ (mem_law)) rfl ((tb.pen a l).inT _ (mem_law)) ((tb.pen a l).one _ (mem_law)) (LamX.lamS_by (by kernel_rfl)) rfl (fun _ _ _ _ _ => rfl) (fun v A outer s H E f c wL =>
      (pm_call (fn_row_of_fraction (C := ((C.withPen a l).clos v)) h wL.cold) wL (by decide) (fun _ => rfl) (am_cons (pm_val 6) (am_cons (pm_val 7) am_nil)) (al (al a0)))))) (pb (pm_tup (am_cons pm_str (am_cons pm_str (am_cons pm_int (am_cons pm_int am_nil)))))))))).pt (sm_one (sm_ret pm_bl)) sm_nil))))))))))))
    (sm_cons (sm_set 10 sc_law.nd (pm_add (pb pm_int) (pb (pm_call (fn__law_draw (C := (C.withPen a l)) h w.cold) w (by decide) (fun _ => rfl) (am_cons (pm_val 1) (am_cons (pm_pow (pb pm_int) (pb pm_int)) am_nil)) (al (al a0))))))
    (sm_cons (sm_if (tm_ne w.hu (pb (lam__law_fault (C := (C.withPen a l)) (k := 4) (nm := "law.<locals>.<lambda>") h rfl rfl w (tb.pen a l).cl (by decide) (by decide) rfl ((tb.pen a l).tb _ (mem_law)) rfl ((tb.pen a l).inT _ (mem_law)) ((tb.pen a l).one _ (mem_law)) (LamX.lamS_by (by kernel_rfl)) rfl (fun _ _ _ _ _ => rfl) (fun v A outer s H E f c wL =>
      (pm_call (fn_row_of_fraction (C := ((C.withPen a l).clos v)) h wL.cold) wL (by decide) (fun _ => rfl) (am_cons (pm_val 10) (am_cons (pm_sub (pb (pm_val 10)) (pb pm_int)) am_nil)) (al (al a0)))))) (pb (pm_tup (am_cons pm_str (am_cons pm_str (am_cons pm_int (am_cons pm_int am_nil))))))) (sm_one (sm_ret pm_bl)) sm_nil)
    (sm_cons (sm_for (passes_of rfl) rfl (im_seq (pf (pm_lst (am_cons pm_int (am_cons pm_int (am_cons (pm_neg (pb pm_int)) (am_cons pm_non (am_cons pm_bl (am_cons pm_str (am_cons (pm_pow (pb pm_int) (pb pm_int)) am_nil)))))))))) (gm_name 11 sc_law.nd)
    (sm_one (sm_if (tm_ne w.hu (pb (lam__law_fault (C := (C.withPen a l)) (k := 4) (nm := "law.<locals>.<lambda>") h rfl rfl w (tb.pen a l).cl (by decide) (by decide) rfl ((tb.pen a l).tb _ (mem_law)) rfl ((tb.pen a l).inT _ (mem_law)) ((tb.pen a l).one _ (mem_law)) (LamX.lamS_by (by kernel_rfl)) rfl (fun _ _ _ _ _ => rfl) (fun v A outer s H E f c wL =>
      (pm_call (fn_row_of_fraction (C := ((C.withPen a l).clos v)) h wL.cold) wL (by decide) (fun _ => rfl) (am_cons (pm_val 11) (am_cons pm_non am_nil)) (al (al a0)))))) (pb (pm_tup (am_cons pm_str (am_cons pm_str (am_cons (pm_repr w.hu (w.gd rfl) (h.free 60) (bm_cons (pb (pm_val 11)) bm_nil)) am_nil)))))) (sm_one (sm_ret pm_bl)) sm_nil)))
    (sm_cons (sm_for (passes_of rfl) rfl (im_seq (pf (pm_lst (am_cons pm_int (am_cons pm_int (am_cons pm_int (am_cons pm_int (am_cons (pm_neg (pb pm_int)) (am_cons pm_non (am_cons pm_bl (am_cons pm_str am_nil))))))))))) (gm_name 11 sc_law.nd)
    (sm_one (sm_if (tm_ne w.hu (pb (lam__law_fault (C := (C.withPen a l)) (k := 4) (nm := "law.<locals>.<lambda>") h rfl rfl w (tb.pen a l).cl (by decide) (by decide) rfl ((tb.pen a l).tb _ (mem_law)) rfl ((tb.pen a l).inT _ (mem_law)) ((tb.pen a l).one _ (mem_law)) (LamX.lamS_by (by kernel_rfl)) rfl (fun _ _ _ _ _ => rfl) (fun v A outer s H E f c wL =>
      (pm_call (fn_row_of_fraction (C := ((C.withPen a l).clos v)) h wL.cold) wL (by decide) (fun _ => rfl) (am_cons pm_int (am_cons (pm_val 11) am_nil)) (al (al a0)))))) (pb (pm_tup (am_cons pm_str (am_cons pm_str (am_cons (pm_repr w.hu (w.gd rfl) (h.free 60) (bm_cons (pb (pm_val 11)) bm_nil)) am_nil)))))) (sm_one (sm_ret pm_bl)) sm_nil)))
    (sm_cons (sm_for (passes_of rfl) rfl (im_seq (pf (pm_lst (am_cons pm_non (am_cons pm_int (am_cons (pm_tup am_nil) (am_cons (pm_tup (am_cons pm_int am_nil)) (am_cons (pm_tup (am_cons pm_int (am_cons pm_int am_nil))) (am_cons (pm_tup (am_cons pm_int (am_cons pm_non am_nil))) (am_cons (pm_tup (am_cons pm_int (am_cons pm_bl am_nil))) (am_cons pm_str (am_cons (pm_mul (pb (pm_tup (am_cons pm_int am_nil))) (pb pm_int)) (am_cons (pm_tup (am_cons pm_int (am_cons (pm_tup (am_cons pm_int (am_cons pm_int am_nil))) am_nil))) am_nil))))))))))))) (gm_name 11 sc_law.nd)
    (sm_one (sm_for (passes_of rfl) rfl (im_seq (pm_tup (am_cons (pm_gfn rfl (h.glo 5)) (am_cons (pm_gfn rfl (h.glo 8)) am_nil)))) (gm_name 12 sc_law.nd)
    (sm_one (sm_if (tm_ne w.hu (pb (lam__law_fault (C := (C.withPen a l)) (k := 4) (nm := "law.<locals>.<lambda>") h rfl rfl w (tb.pen a l).cl (by decide) (by decide) rfl ((tb.pen a l).tb _ (mem_law)) rfl ((tb.pen a l).inT _ (mem_law)) ((tb.pen a l).one _ (mem_law)) (LamX.lamS_by (by kernel_rfl)) rfl (fun _ _ _ _ _ => rfl) (fun v A outer s H E f c wL =>
      (pm_callV 12 (k := 4) (Fns.cons (fn_line_fraction (C := ((C.withPen a l).clos v)) h wL.cold) (by decide) (Fns.cons (fn_line_table (C := ((C.withPen a l).clos v)) h wL.cold) (by decide) Fns.nil)) wL (by decide) (fun _ => rfl) (am_cons (pm_val 11) am_nil) (al a0))))) (pb (pm_tup (am_cons pm_str (am_cons pm_str (am_cons (pm_repr w.hu (w.gd rfl) (h.free 60) (bm_cons (pb (pm_val 11)) bm_nil)) am_nil)))))) (sm_one (sm_ret pm_bl)) sm_nil)))))
    (sm_one (sm_ret (vm_and (vm (pm_call (fn__law_is (C := (C.withPen a l)) h w.cold 3) w (by decide) (fun _ => rfl) (am_cons (pm_call (fn_row_of_fraction (C := (C.withPen a l)) h w.cold) w (by decide) (fun _ => rfl) (am_cons pm_int (am_cons pm_int am_nil)) (al (al a0))) (am_cons (pm_mul (pb (pm_tup (am_cons pm_int am_nil))) (pb pm_int)) am_nil)) (al (al a0)))) (vm_one (vm (pm_call (fn__law_is (C := (C.withPen a l)) h w.cold 3) w (by decide) (fun _ => rfl) (am_cons (pm_call (fn_line_fraction (C := (C.withPen a l)) h w.cold) w (by decide) (fun _ => rfl) (am_cons (pm_tup (am_cons pm_int (am_cons pm_int am_nil))) am_nil) (al a0)) (am_cons (pm_tup (am_cons pm_int (am_cons pm_int am_nil))) am_nil)) (al (al a0))))))))))))))) hm1 hm2
end Lw
end Pu
end

section
set_option maxHeartbeats 0
open PySem PySem.Spec PyProof.Rows L2

namespace Pu
namespace Lw
open PySem.W HandSHeadRun
theorem runA (w : World) : (wholeF (fun p => stepQ (denQ tabQ) p w) fenceQ 20000 R.prog).map (fun x => (looksF R.prog x.1.heap x.2.abs, seenQ (PySem.W.view R.prog [0, 54]) nms (importedModules R.prog.main.body) (fun s => xlAt (PySem.W.view R.prog [0, 54]) [] s && recOk R.toRowW.records s) x.2.abs)) = some (true, openGood (PySem.W.view R.prog [0, 54]) nms) := by
  kernel_rfl
theorem runB (w : World) : (wholeF (fun p => stepQ (denQ tabQ) p w) fenceQ 20000 R.prog).map (fun x => ob x.2) = some (hk.val w) := by
  kernel_rfl
theorem run (w : World) : RunEqI R (PySem.W.view R.prog [0, 54]) hk ob 20000 nms w := run2I (runA w) (runB w)
end Lw
end Pu
end

section
set_option maxHeartbeats 4000000
namespace Pu
open PySem PySem.Spec PyProof.Rows L2
/-! ### mirrors evaluated -/
theorem pv_cells (q : Pen) : penVal (.inr "cells") q = some (.lst (q.cells.map D.int)) := if_pos rfl
theorem pv_at (q : Pen) : penVal (.inr "at") q = some (.int q.at_) := (if_neg (Ne.symm pen_keys.1)).trans (if_pos rfl)
theorem pv_digits (q : Pen) : penVal (.inr "digits") q = some (.int q.digits) := by
  obtain ⟨n1, n2, n3, n4, n5, n6, n7, n8, n9, n10⟩ := pen_keys
  exact (if_neg (Ne.symm n2)).trans ((if_neg (Ne.symm n5)).trans (if_pos rfl))
theorem pv_count (q : Pen) : penVal (.inr "count") q = some (.int q.count) := by
  obtain ⟨n1, n2, n3, n4, n5, n6, n7, n8, n9, n10⟩ := pen_keys
  exact (if_neg (Ne.symm n3)).trans ((if_neg (Ne.symm n6)).trans ((if_neg (Ne.symm n8)).trans (if_pos rfl)))
theorem pv_fold (q : Pen) : penVal (.inr "fold") q = some (.int q.fold) := by
  obtain ⟨n1, n2, n3, n4, n5, n6, n7, n8, n9, n10⟩ := pen_keys
  exact (if_neg (Ne.symm n4)).trans ((if_neg (Ne.symm n7)).trans ((if_neg (Ne.symm n9)).trans ((if_neg (Ne.symm n10)).trans (if_pos rfl))))
theorem ps_at (i : Int) (h : 0 ≤ i) (q : Pen) : penSet (.inr "at") i q = some { q with at_ := i.toNat } := (if_pos rfl).trans (if_pos h)
theorem ps_digits (i : Int) (q : Pen) : penSet (.inr "digits") i q = some { q with digits := i } := by
  obtain ⟨n1, n2, n3, n4, n5, n6, n7, n8, n9, n10⟩ := pen_keys
  exact (if_neg (Ne.symm n5)).trans (if_pos rfl)
theorem ps_count (i : Int) (q : Pen) : penSet (.inr "count") i q = some { q with count := i } := by
  obtain ⟨n1, n2, n3, n4, n5, n6, n7, n8, n9, n10⟩ := pen_keys
  exact (if_neg (Ne.symm n6)).trans ((if_neg (Ne.symm n8)).trans (if_pos rfl))
theorem ps_fold (i : Int) (q : Pen) : penSet (.inr "fold") i q = some { q with fold := i } := by
  obtain ⟨n1, n2, n3, n4, n5, n6, n7, n8, n9, n10⟩ := pen_keys
  exact (if_neg (Ne.symm n7)).trans ((if_neg (Ne.symm n9)).trans ((if_neg (Ne.symm n10)).trans (if_pos rfl)))
theorem bind_ok {α β : Type} (a : α) (p : Pen) (k : α → Pen → Out β) : (Out.ok a p).bind k = k a p := rfl
theorem bind_err {α β : Type} (e : Err) (p : Pen) (k : α → Pen → Out β) : (Out.err e p : Out α).bind k = .err e p := rfl
theorem res_ok {α : Type} (a : α) (p : Pen) (env : Env) (k : α → Pen → Res) : (Out.ok a p).res env k = k a p := rfl
theorem res_err {α : Type} (e : Err) (p : Pen) (env : Env) (k : α → Pen → Res) : (Out.err e p : Out α).res env k = .err e env p := rfl
theorem ne_ok {α : Type} (a : α) (p : Pen) : (Out.ok a p).ne = .ok a p := rfl
theorem eq_int (i j : Int) : kEq (.int i) (.int j) = some (.bl (i == j)) := by
  unfold kEq
  simp [D.py, SeqAt.shaped, PyData.eqv, PyData.canLay0, PyData.depth]
theorem fmod_range (a : Int) {b : Int} (h : 0 < b) : 0 ≤ a.fmod b ∧ a.fmod b < b := ⟨Int.fmod_nonneg_of_pos a h, Int.fmod_lt_of_pos a h⟩
theorem small_mul {a b : Int} (h : a.natAbs < 2 ^ 64 ∨ b.natAbs < 2 ^ 64) : kMul (.int a) (.int b) = some (.int (a * b)) := by
  show kMulI a b = _
  unfold kMulI gMul
  rw [if_pos]
  rcases h with h | h
  · rw [decide_eq_true h, Bool.true_or]
  · rw [decide_eq_true h, Bool.true_or, Bool.or_true]
theorem mod_ok (a : Int) {b : Int} (h : b ≠ 0) : kModI a b = some (.int (a.fmod b)) := by
  unfold kModI
  rw [if_pos h]
theorem div_ok (a : Int) {b : Int} (h : b ≠ 0) (h2 : b.natAbs < 1073741824) : kDivI a b = some (.int (a.fdiv b)) := by
  unfold kDivI gDiv
  rw [if_pos]
  rw [decide_eq_true h, decide_eq_true h2, Bool.true_or, Bool.and_true]
theorem pow10 (k : Nat) (h : k ≤ 1000000) : kPowI 10 k = some (.int (10 ^ k)) := by
  unfold kPowI
  rw [if_pos ⟨by omega, by omega, by decide⟩]
  rfl
end Pu
end

section
set_option maxHeartbeats 4000000
namespace Pu
open PySem PySem.Spec PyProof.Rows L2
/-! ### shown texts: their signs, their length -/
def Sm (x : Str) : Prop := ∀ c ∈ x.cps.toList, c < 1114112
theorem chr_lt (ch : Char) : ch.toNat < 1114112 := by
  have h := ch.valid
  show ch.val.toNat < 1114112
  rcases h with h | h
  · exact Nat.lt_trans h (by decide)
  · exact h.2
theorem Sm.app {a b : Str} (h : Sm a) (g : Sm b) : Sm (a ++ b) := fun c hc => by
  have e : (a ++ b).cps.toList = a.cps.toList ++ b.cps.toList := by
    show (a.cps ++ b.cps).toList = _
    simp
  rw [e] at hc
  exact (List.mem_append.mp hc).elim (h c) (g c)
theorem Sm.lit (s : String) : Sm (Str.ofString s) := fun c hc => by
  rw [Str.ofString_eq_toList] at hc
  have hc' : c ∈ s.toList.map Char.toNat := hc
  obtain ⟨ch, _, rfl⟩ := List.mem_map.mp hc'
  exact chr_lt ch
theorem sm_char {q c : Nat} (hq : q < 1114112) (hc : c < 1114112) : ∀ d ∈ Builtin.Str.reprChar q c, d < 1114112 := by
  have hx : ∀ n d, d ∈ List.replicate n 48 ++ (Nat.toDigits 16 c).map Char.toNat → d < 1114112 := fun n d h => by
    rcases List.mem_append.mp h with h | h
    · rw [(List.mem_replicate.mp h).2]
      decide
    · obtain ⟨ch, _, rfl⟩ := List.mem_map.mp h
      exact chr_lt ch
  intro d hd
  unfold Builtin.Str.reprChar at hd
  dsimp only at hd
  repeat' split at hd
  all_goals first
    | (simp only [List.mem_cons, List.not_mem_nil, or_false] at hd
       omega)
    | (rcases List.mem_append.mp hd with hd | hd
       · simp only [List.mem_cons, List.not_mem_nil, or_false] at hd
         omega
       · exact hx _ _ hd)
theorem sm_fold {q : Nat} (hq : q < 1114112) : ∀ (l : List Nat) (acc : Array Nat), (∀ c ∈ l, c < 1114112) → (∀ c ∈ acc.toList, c < 1114112) → ∀ c ∈ (l.foldl (fun out c => out ++ (Builtin.Str.reprChar q c).toArray) acc).toList, c < 1114112
  | [], acc, _, h => h
  | c :: l, acc, h1, h2 => by
    rw [List.foldl_cons]
    refine sm_fold hq l _ (fun d hd => h1 d (List.mem_cons_of_mem _ hd)) fun d hd => ?_
    have e : (acc ++ (Builtin.Str.reprChar q c).toArray).toList = acc.toList ++ Builtin.Str.reprChar q c := by simp
    rw [e] at hd
    exact (List.mem_append.mp hd).elim (h2 d) (sm_char hq (h1 c List.mem_cons_self) d)
theorem Sm.repr {x : Str} (h : Sm x) : Sm (reprText x) := by
  have hq : reprQuote x < 1114112 := by
    unfold reprQuote
    split <;> decide
  intro c hc
  unfold reprText at hc
  have hc' : c ∈ ((x.cps.foldl (fun out c => out ++ (Builtin.Str.reprChar (reprQuote x) c).toArray) #[reprQuote x]).push (reprQuote x)).toList := hc
  rw [Array.toList_push, ← Array.foldl_toList] at hc'
  rcases List.mem_append.mp hc' with z | z
  · refine sm_fold hq _ _ h (fun d hd => ?_) c z
    have e : d = reprQuote x := by simpa using hd
    rw [e]
    exact hq
  · have e : c = reprQuote x := by simpa using z
    rw [e]
    exact hq
theorem Sm.empty : Sm Str.empty := fun c hc => by cases hc
theorem Sm.textFrom : ∀ (ts : List Str) (k : Nat) (acc : Str), Sm acc → (∀ t ∈ ts, Sm t) → Sm (textFrom k acc ts)
  | [], _, _, h, _ => h
  | t :: ts, k, acc, h, g => Sm.textFrom ts (k + 1) _ ((h.app (Sm.lit _)).app (g t List.mem_cons_self)) fun u hu => g u (List.mem_cons_of_mem _ hu)
theorem Sm.list {ts : List Str} (g : ∀ t ∈ ts, Sm t) : Sm (listText ts) := (Sm.textFrom ts 0 _ (Sm.lit _) g).app (Sm.lit _)
theorem Sm.join (sep : Str) (hs : Sm sep) : ∀ {ts : List Str}, (∀ t ∈ ts, Sm t) → Sm (Str.join sep ts)
  | [], _ => Sm.empty
  | [x], g => g x List.mem_cons_self
  | x :: y :: r, g => ((g x List.mem_cons_self).app hs).app (Sm.join sep hs fun u hu => g u (List.mem_cons_of_mem _ hu))
theorem Sm.tup {ts : List Str} (g : ∀ t ∈ ts, Sm t) : Sm (tupleText ts) := ((Sm.lit _).app (Sm.join _ (Sm.lit _) g)).app (Sm.lit _)
theorem Sm.dict {ts : List Str} (g : ∀ t ∈ ts, Sm t) : Sm (dictText ts) := ((Sm.lit _).app (Sm.join _ (Sm.lit _) g)).app (Sm.lit _)
mutual
def smL : PyData → Bool
  | .str x => x.cps.toList.all fun c => decide (c < 1114112)
  | .list xs => smLs xs
  | .tuple xs => smLs xs
  | .dict kvs => smLk kvs
  | .none => true
  | .bool _ => true
  | .int _ => true
def smLs : List PyData → Bool
  | [] => true
  | x :: xs => smL x && smLs xs
def smLk : List (PyData × PyData) → Bool
  | [] => true
  | (k, v) :: r => (smL k && smL v) && smLk r
end
mutual
theorem sm_shown : ∀ d : PyData, smL d = true → Sm d.shown
  | .none, _ => by simp only [PyData.shown]; exact Sm.lit _
  | .bool b, _ => by
    simp only [PyData.shown]
    split <;> exact Sm.lit _
  | .int i, _ => by simp only [PyData.shown]; exact Sm.lit _
  | .str x, h => by
    simp only [smL, List.all_eq_true, decide_eq_true_eq] at h
    simp only [PyData.shown]
    exact Sm.repr h
  | .list xs, h => by
    simp only [smL] at h
    simp only [PyData.shown]
    exact Sm.list (sm_all xs h)
  | .tuple xs, h => by
    simp only [smL] at h
    simp only [PyData.shown]
    exact Sm.tup (sm_all xs h)
  | .dict kvs, h => by
    simp only [smL] at h
    simp only [PyData.shown]
    exact Sm.dict (sm_kv kvs h)
theorem sm_all : ∀ xs : List PyData, smLs xs = true → ∀ t ∈ PyData.shownAll xs, Sm t
  | [], _, t, ht => by simp only [PyData.shownAll] at ht; cases ht
  | x :: xs, h, t, ht => by
    simp only [smLs, Bool.and_eq_true] at h
    simp only [PyData.shownAll] at ht
    rcases List.mem_cons.mp ht with e | m
    · rw [e]
      exact sm_shown x h.1
    · exact sm_all xs h.2 t m
theorem sm_kv : ∀ kvs : List (PyData × PyData), smLk kvs = true → ∀ t ∈ PyData.shownKv kvs, Sm t
  | [], _, t, ht => by simp only [PyData.shownKv] at ht; cases ht
  | (k, v) :: r, h, t, ht => by
    simp only [smLk, Bool.and_eq_true] at h
    simp only [PyData.shownKv] at ht
    rcases List.mem_cons.mp ht with e | m
    · rw [e]
      exact ((sm_shown k h.1.1).app (Sm.lit _)).app (sm_shown v h.1.2)
    · exact sm_kv r h.2 t m
end
/-- a small datum that repr shows -/
structure Shw (B n : Nat) (d : D) : Prop where
  ok : d.okP = true
  sh : d.pr.showable = true
  lv : d.pr.leavesShort 50 = true
  bk : d.pr.bulk ≤ n
  dp : d.pr.depth ≤ B
theorem Shw.len {B n : Nat} {d : D} (h : Shw B n d) : d.pr.shown.length ≤ 52 * n + 50 := by
  have e := PyData.shown_le_bulk 50 (by decide) d.pr h.lv
  have e2 := Nat.mul_le_mul_left 52 h.bk
  omega
theorem Shw.repr {B n : Nat} {d : D} (h : Shw B n d) (hB : B < 60) (hn : 52 * n + 50 ≤ 16000000) : kRepr [d] = some (.str d.pr.shown) := by
  have hl : d.pr.shown.length ≤ sizeLine := by
    have := h.len
    rw [sizeLine_eq]
    omega
  have hd : d.pr.depth < 60 := by
    have := h.dp
    omega
  exact if_pos ⟨h.ok, h.sh, hl, hd⟩
theorem Shw.str {x : Str} (h : Sm x) : Shw 0 x.length (.str x) := by
  refine ⟨rfl, rfl, ?_, Nat.le_refl _, Nat.le_refl _⟩
  show (x.cps.toList.all fun c => decide (c < 16 ^ 8)) = true
  rw [List.all_eq_true]
  exact fun c hc => decide_eq_true (Nat.lt_trans (h c hc) (by decide))
theorem Shw.mono {B n B' n' : Nat} {d : D} (h : Shw B n d) (hB : B ≤ B') (hn : n ≤ n') : Shw B' n' d := ⟨h.ok, h.sh, h.lv, Nat.le_trans h.bk hn, Nat.le_trans h.dp hB⟩
inductive Shws (B : Nat) : Nat → List D → Prop where
  | nil : Shws B 0 []
  | cons {n m : Nat} {d : D} {ds : List D} (h : Shw B n d) (t : Shws B m ds) : Shws B (n + 1 + m) (d :: ds)
theorem Shws.all {B n : Nat} {ds : List D} (h : Shws B n ds) : D.okPs ds = true ∧ PyData.showableAll (D.prs ds) = true ∧ PyData.leavesShortAll 50 (D.prs ds) = true ∧ PyData.bulkAll (D.prs ds) ≤ n ∧ PyData.depthAll (D.prs ds) ≤ B := by
  induction h with
  | nil => simp [D.okPs, D.prs, PyData.showableAll, PyData.leavesShortAll, PyData.bulkAll, PyData.depthAll]
  | cons h t ih =>
    obtain ⟨i1, i2, i3, i4, i5⟩ := ih
    have h4 := h.bk
    have h5 := h.dp
    simp only [D.okPs, D.prs, PyData.showableAll, PyData.leavesShortAll, PyData.bulkAll, PyData.depthAll, h.ok, h.sh, h.lv, i1, i2, i3, Bool.and_self, true_and]
    omega
theorem Shw.tup {B n : Nat} {ds : List D} (h : Shws B n ds) : Shw (B + 1) n (.tup ds) := by
  obtain ⟨i1, i2, i3, i4, i5⟩ := h.all
  refine ⟨by simpa only [D.okP] using i1, by simpa only [D.pr, PyData.showable] using i2, by simpa only [D.pr, PyData.leavesShort] using i3, by simpa only [D.pr, PyData.bulk] using i4, ?_⟩
  simp only [D.pr, PyData.depth]
  omega
theorem Shw.lst {B n : Nat} {ds : List D} (h : Shws B n ds) : Shw (B + 1) n (.lst ds) := by
  obtain ⟨i1, i2, i3, i4, i5⟩ := h.all
  refine ⟨by simpa only [D.okP] using i1, by simpa only [D.pr, PyData.showable] using i2, by simpa only [D.pr, PyData.leavesShort] using i3, by simpa only [D.pr, PyData.bulk] using i4, ?_⟩
  simp only [D.pr, PyData.depth]
  omega
end Pu
end

section
set_option maxHeartbeats 4000000
namespace Pu
open PySem PySem.Spec PyProof.Rows L2
/-- plain values -/
def D.bs : D → Bool
  | .non => true
  | .bl _ => true
  | .int _ => true
  | .str _ => true
  | .tup _ => true
  | .lst _ => true
  | .dct _ => true
  | _ => false
def D.isI : D → Bool
  | .int _ => true
  | .bl _ => true
  | _ => false
def D.isB1 : D → Bool
  | .bl _ => true
  | _ => false
def D.isI1 : D → Bool
  | .int _ => true
  | _ => false
def D.isL : D → Bool
  | .tup _ => true
  | .lst _ => true
  | _ => false
/-! ### built-in classes -/
theorem kb_dict_int : kitB "dict" "int" = some false := by decide +kernel
theorem kb_dict_bool : kitB "dict" "bool" = some false := by decide +kernel
theorem kb_dict_tuple : kitB "dict" "tuple" = some false := by decide +kernel
theorem kb_dict_list : kitB "dict" "list" = some false := by decide +kernel
theorem kb_dict_str : kitB "dict" "str" = some false := by decide +kernel
theorem kb_NoneType_int : kitB "NoneType" "int" = some false := by decide +kernel
theorem kb_NoneType_bool : kitB "NoneType" "bool" = some false := by decide +kernel
theorem kb_NoneType_list : kitB "NoneType" "list" = some false := by decide +kernel
theorem kb_NoneType_tuple : kitB "NoneType" "tuple" = some false := by decide +kernel
theorem kb_NoneType_str : kitB "NoneType" "str" = some false := by decide +kernel
theorem kb_bool_int : kitB "bool" "int" = some true := by decide +kernel
theorem kb_bool_bool : kitB "bool" "bool" = some true := by decide +kernel
theorem kb_bool_list : kitB "bool" "list" = some false := by decide +kernel
theorem kb_bool_tuple : kitB "bool" "tuple" = some false := by decide +kernel
theorem kb_bool_str : kitB "bool" "str" = some false := by decide +kernel
theorem kb_int_int : kitB "int" "int" = some true := by decide +kernel
theorem kb_int_bool : kitB "int" "bool" = some false := by decide +kernel
theorem kb_int_list : kitB "int" "list" = some false := by decide +kernel
theorem kb_int_tuple : kitB "int" "tuple" = some false := by decide +kernel
theorem kb_int_str : kitB "int" "str" = some false := by decide +kernel
theorem kb_str_int : kitB "str" "int" = some false := by decide +kernel
theorem kb_str_bool : kitB "str" "bool" = some false := by decide +kernel
theorem kb_str_list : kitB "str" "list" = some false := by decide +kernel
theorem kb_str_tuple : kitB "str" "tuple" = some false := by decide +kernel
theorem kb_str_str : kitB "str" "str" = some true := by decide +kernel
theorem kb_tuple_int : kitB "tuple" "int" = some false := by decide +kernel
theorem kb_tuple_bool : kitB "tuple" "bool" = some false := by decide +kernel
theorem kb_tuple_list : kitB "tuple" "list" = some false := by decide +kernel
theorem kb_tuple_tuple : kitB "tuple" "tuple" = some true := by decide +kernel
theorem kb_tuple_str : kitB "tuple" "str" = some false := by decide +kernel
theorem kb_list_int : kitB "list" "int" = some false := by decide +kernel
theorem kb_list_bool : kitB "list" "bool" = some false := by decide +kernel
theorem kb_list_list : kitB "list" "list" = some true := by decide +kernel
theorem kb_list_tuple : kitB "list" "tuple" = some false := by decide +kernel
theorem kb_list_str : kitB "list" "str" = some false := by decide +kernel
/-! ### comprehensions and loops of mirrors, evaluated -/
theorem compL_ev {g : GM} {tt : TM} {te : EM} {env : Env} {q : Pen} (t : D → Bool) (f : D → D) : ∀ (ds : List D), (∀ d ∈ ds, ∃ e1, g d env = some e1 ∧ tt e1 q = .ok (t d) q ∧ (t d = true → te e1 q = .ok (f d) q)) → compL g tt te env ds q = .ok ((ds.filter t).map f) q
  | [], _ => rfl
  | d :: ds, h => by
    obtain ⟨e1, h1, h2, h3⟩ := h d List.mem_cons_self
    have ih := compL_ev t f ds fun x hx => h x (List.mem_cons_of_mem _ hx)
    unfold compL
    rw [h1]
    show ((tt e1 q).ne.bind fun k p1 => _) = _
    rw [h2]
    show (if t d = true then _ else _) = _
    by_cases c : t d = true
    · rw [if_pos c, h3 c, List.filter_cons_of_pos c, List.map_cons]
      show ((compL g tt te env ds q).bind fun xs p3 => _) = _
      rw [ih]
      rfl
    · rw [if_neg c, List.filter_cons_of_neg c]
      exact ih
/-- a comprehension that leaves the pen -/
theorem comp_ev {it : AM} {vs : List Nat} {g : GM} {tt : TM} {te : EM} {env : Env} {q : Pen} {ds : List D} (t : D → Bool) (f : D → D) (hi : it env q = .ok ds q) (hl : ds.length ≤ sizeLine)
    (h : ∀ d ∈ ds, ∃ e1, g d (wipeE env vs) = some e1 ∧ tt e1 q = .ok (t d) q ∧ (t d = true → te e1 q = .ok (f d) q)) : mComp it vs g tt te env q = .ok ((ds.filter t).map f) q := by
  unfold mComp
  rw [hi, bind_ok, if_pos hl]
  exact compL_ev t f ds h
/-- .. without a test -/
theorem comp_map {it : AM} {vs : List Nat} {g : GM} {te : EM} {env : Env} {q : Pen} {ds : List D} (f : D → D) (hi : it env q = .ok ds q) (hl : ds.length ≤ sizeLine)
    (h : ∀ d ∈ ds, ∃ e1, g d (wipeE env vs) = some e1 ∧ te e1 q = .ok (f d) q) : mComp it vs g tmYes te env q = .ok (ds.map f) q := by
  have e := comp_ev (tt := tmYes) (fun _ => true) f hi hl fun d hd => by
    obtain ⟨e1, h1, h2⟩ := h d hd
    exact ⟨e1, h1, rfl, fun _ => h2⟩
  rw [e, List.filter_eq_self.mpr fun _ _ => rfl]
/-- .. over the image of a list -/
theorem comp_of {α : Type} {it : AM} {vs : List Nat} {g : GM} {tt : TM} {te : EM} {env : Env} {q : Pen} {xs : List α} (c : α → D) (t : α → Bool) (f : α → D) (hi : it env q = .ok (xs.map c) q) (hl : xs.length ≤ sizeLine)
    (h : ∀ x ∈ xs, ∃ e1, g (c x) (wipeE env vs) = some e1 ∧ tt e1 q = .ok (t x) q ∧ (t x = true → te e1 q = .ok (f x) q)) : mComp it vs g tt te env q = .ok ((xs.filter t).map f) q := by
  unfold mComp
  rw [hi, bind_ok, if_pos (by rw [List.length_map]; exact hl)]
  clear hi hl
  induction xs with
  | nil => rfl
  | cons x xs ih =>
    obtain ⟨e1, h1, h2, h3⟩ := h x List.mem_cons_self
    have ih := ih fun y hy => h y (List.mem_cons_of_mem _ hy)
    rw [List.map_cons]
    unfold compL
    rw [h1]
    show ((tt e1 q).ne.bind fun k p1 => _) = _
    rw [h2]
    show (if t x = true then _ else _) = _
    by_cases c : t x = true
    · rw [if_pos c, h3 c, List.filter_cons_of_pos c, List.map_cons]
      show ((compL g tt te _ (xs.map _) q).bind fun xs p3 => _) = _
      rw [ih]
      rfl
    · rw [if_neg c, List.filter_cons_of_neg c]
      exact ih
theorem comp_ofM {α : Type} {it : AM} {vs : List Nat} {g : GM} {te : EM} {env : Env} {q : Pen} {xs : List α} (c : α → D) (f : α → D) (hi : it env q = .ok (xs.map c) q) (hl : xs.length ≤ sizeLine)
    (h : ∀ x ∈ xs, ∃ e1, g (c x) (wipeE env vs) = some e1 ∧ te e1 q = .ok (f x) q) : mComp it vs g tmYes te env q = .ok (xs.map f) q := by
  have e := comp_of (tt := tmYes) c (fun _ => true) f hi hl fun x hx => by
    obtain ⟨e1, h1, h2⟩ := h x hx
    exact ⟨e1, h1, rfl, fun _ => h2⟩
  rw [e, List.filter_eq_self.mpr fun _ _ => rfl]
/-- a loop that goes on, told by how many rounds are behind it -/
theorem loop_inv {α : Type} {g : GM} {b : SM} (c : α → D) (I : Nat → Env → Pen → Prop) : ∀ (xs : List α) (n : Nat) (env : Env) (q : Pen), I n env q →
    (∀ (i : Nat) (h : i < xs.length) env q, I (n + i) env q → ∃ e1, g (c xs[i]) env = some e1 ∧ ∃ e2 q2, (b e1 q = .next e2 q2 ∨ b e1 q = .cnt e2 q2) ∧ I (n + i + 1) e2 q2) →
    ∃ e2 q2, loopS g b (xs.map c) env q = .next e2 q2 ∧ I (n + xs.length) e2 q2
  | [], n, env, q, h, _ => ⟨env, q, rfl, h⟩
  | x :: xs, n, env, q, h, k => by
    obtain ⟨e1, h1, e2, q2, h2, h3⟩ := k 0 (by simp) env q h
    obtain ⟨e3, q3, h4, h5⟩ := loop_inv c I xs (n + 1) e2 q2 h3 fun i hi env q z => by
      have e : n + 1 + i = n + (i + 1) := by omega
      rw [e] at z ⊢
      exact k (i + 1) (by simpa using hi) env q z
    refine ⟨e3, q3, ?_, ?_⟩
    · rw [List.map_cons, ← h4]
      have h1' : g (c x) env = some e1 := h1
      rcases h2 with h2 | h2 <;> simp only [loopS, h1', h2]
    · rw [List.length_cons]
      have e : n + (xs.length + 1) = n + 1 + xs.length := by omega
      rw [e]
      exact h5
theorem seq_next {a b : SM} {env e2 : Env} {q q2 : Pen} (h : a env q = .next e2 q2) : mSeq a b env q = b e2 q2 := by
  unfold mSeq
  rw [h]
theorem seq_ret {a b : SM} {env : Env} {d : D} {q q2 : Pen} (h : a env q = .ret d q2) : mSeq a b env q = .ret d q2 := by
  unfold mSeq
  rw [h]
theorem seq_err {a b : SM} {env e2 : Env} {e : Err} {q q2 : Pen} (h : a env q = .err e e2 q2) : mSeq a b env q = .err e e2 q2 := by
  unfold mSeq
  rw [h]
theorem for_of {it : AM} {g : GM} {b : SM} {env : Env} {q : Pen} {ds : List D} (h : it env q = .ok ds q) : mFor it g b env q = loopS g b ds env q := by
  unfold mFor
  rw [h]
  rfl
/-! ### values without bools: == is = -/
theorem ne_int (i j : Int) : kNe (.int i) (.int j) = some (.bl (!(i == j))) := by
  unfold kNe
  simp [D.py, SeqAt.shaped, PyData.eqv, PyData.canLay0, PyData.depth]
def prD (p : Int × Int) : D := .tup [.int p.1, .int p.2]
theorem ne_pr (p r : Int × Int) : kNe (prD p) (prD r) = some (.bl (!(p == r))) := by
  obtain ⟨a, b⟩ := p
  obtain ⟨c, d⟩ := r
  unfold kNe prD
  simp [D.py, D.pys, SeqAt.shaped, PyData.eqv, PyData.eqvAll, PyData.canLay0, PyData.canLayAll0, PyData.depth, PyData.depthAll]
  show (!(a == c) || !(b == d)) = !((a == c) && (b == d))
  cases a == c <;> cases b == d <;> rfl
theorem eq_refl {d : D} (h : SeqAt.shaped d.py = true) : kEq d d = some (.bl true) := by
  unfold kEq
  rw [if_pos ⟨h, h⟩, SeqAt.eqv_refl d.py (SeqAt.canLay_of_shaped h)]
theorem ne_refl {d : D} (h : SeqAt.shaped d.py = true) : kNe d d = some (.bl false) := by
  unfold kNe
  rw [if_pos ⟨h, h⟩, SeqAt.eqv_refl d.py (SeqAt.canLay_of_shaped h)]
  rfl
def prsD (ts : List (Int × Int)) : D := .tup (ts.map prD)
theorem prs_lay : ∀ ts : List (Int × Int), PyData.canLayAll0 (D.pys (ts.map prD)) = true
  | [] => by simp [D.pys, PyData.canLayAll0]
  | t :: ts => by
    have ih := prs_lay ts
    simp only [List.map_cons, D.pys, PyData.canLayAll0, Bool.and_eq_true]
    exact ⟨by simp [prD, D.py, D.pys, PyData.canLay0, PyData.canLayAll0], ih⟩
theorem prs_dep : ∀ ts : List (Int × Int), PyData.depthAll (D.pys (ts.map prD)) ≤ 1
  | [] => by simp [D.pys, PyData.depthAll]
  | t :: ts => by
    have ih := prs_dep ts
    simp only [List.map_cons, D.pys, PyData.depthAll]
    have e : PyData.depth (prD t).py ≤ 1 := by simp [prD, D.py, D.pys, PyData.depth, PyData.depthAll]
    omega
theorem prs_shaped (ts : List (Int × Int)) : SeqAt.shaped (prsD ts).py = true := by
  unfold SeqAt.shaped prsD
  simp only [D.py, PyData.canLay0, PyData.depth]
  rw [prs_lay ts, Bool.true_and, decide_eq_true_eq]
  have := prs_dep ts
  omega
/-! ### fields -/
def kFld (cs : List Str) (f : Str) (d : D) (q : Pen) : Out D := match d with
  | .obj c fs => if c ∈ cs then (match fs.lookup f with
    | some z => .ok z q
    | none => .bad) else .bad
  | _ => .bad
theorem mFld_eq (cs : List Str) (f : Str) (m : EM) (env : Env) (q : Pen) : mFld cs f m env q = (m env q).bind (kFld cs f) := rfl
/-! ### slices, subscripts, ranges -/
theorem cut_take {α : Type} (xs : List α) {t : Int} (h : 0 ≤ t) : cutD xs none (some t) = xs.take t.toNat := by
  unfold cutD
  rw [show HT.sIx xs.length 0 none = 0 from rfl, show HT.sIx xs.length xs.length (some t) = min t.toNat xs.length from if_neg (by omega), List.drop_zero, Nat.sub_zero]
  by_cases c : t.toNat ≤ xs.length
  · rw [Nat.min_eq_left c]
  · rw [Nat.min_eq_right (by omega), List.take_length, List.take_of_length_le (by omega)]
theorem cut_drop {α : Type} (xs : List α) {t : Int} (h : 0 ≤ t) : cutD xs (some t) none = xs.drop t.toNat := by
  unfold cutD
  rw [show HT.sIx xs.length xs.length none = xs.length from rfl, show HT.sIx xs.length 0 (some t) = min t.toNat xs.length from if_neg (by omega)]
  by_cases c : t.toNat ≤ xs.length
  · rw [Nat.min_eq_left c, List.take_of_length_le (by rw [List.length_drop]; omega)]
  · rw [Nat.min_eq_right (by omega), Nat.sub_self, List.take_zero, List.drop_eq_nil_of_le (by omega)]
theorem cut_last {α : Type} (xs : List α) : cutD xs none (some (-1)) = xs.dropLast := by
  unfold cutD
  rw [show HT.sIx xs.length 0 none = 0 from rfl, show HT.sIx xs.length xs.length (some (-1)) = (-1 + (xs.length : Int)).toNat by simp [HT.sIx], List.drop_zero, Nat.sub_zero, List.dropLast_eq_take]
  congr 1
  omega
theorem atI_of {α : Type} (xs : List α) {i : Int} (h0 : 0 ≤ i) (h1 : i < xs.length) : L2.atI xs i = some (xs[i.toNat]'(by omega)) := by
  unfold L2.atI ixN
  rw [if_pos h0, if_pos h1]
  exact List.getElem?_eq_getElem _
theorem add_int (i j : Int) : kAdd (.int i) (.int j) = some (.int (i + j)) := rfl
theorem len_tup (xs : List D) : kLen [.tup xs] = some (.int xs.length) := rfl
theorem len_lst (xs : List D) : kLen [.lst xs] = some (.int xs.length) := rfl
theorem tuple_tup (xs : List D) : kTuple [.tup xs] = some (.tup xs) := rfl
theorem tuple_lst (xs : List D) : kTuple [.lst xs] = some (.tup xs) := rfl
theorem ix_lst (xs : List D) (i : Int) : kIx (.lst xs) (.int i) = L2.atI xs i := rfl
theorem ix_tup (xs : List D) (i : Int) : kIx (.tup xs) (.int i) = L2.atI xs i := rfl
def rgI (n : Nat) : List Int := (List.range n).map fun (i : Nat) => (i : Int)
theorem rgN0 (n : Nat) : rgN 0 n = (rgI n).map D.int := by
  unfold rgN rgI
  rw [List.map_map]
  congr 1
  funext i
  simp
theorem rgI_len (n : Nat) : (rgI n).length = n := by simp [rgI]
theorem rgI_get (n i : Nat) (h : i < (rgI n).length) : (rgI n)[i] = i := by simp [rgI]
theorem rgI_mem {n : Nat} {x : Int} : x ∈ rgI n ↔ 0 ≤ x ∧ x < n := by
  unfold rgI
  rw [List.mem_map]
  constructor
  · rintro ⟨i, hi, rfl⟩
    have := List.mem_range.mp hi
    omega
  · rintro ⟨h0, h1⟩
    exact ⟨x.toNat, List.mem_range.mpr (by omega), by omega⟩
theorem rgI_sorted (n : Nat) : (rgI n).Pairwise (· ≤ ·) := by
  unfold rgI
  rw [List.pairwise_map]
  exact List.pairwise_lt_range.imp fun h => by omega
theorem blsD_of {α : Type} (f : α → Bool) : ∀ xs : List α, blsD (xs.map fun x => D.bl (f x)) = some (xs.map f)
  | [] => rfl
  | x :: xs => by simp [blsD, D.toBl, blsD_of f xs]
theorem all_map {α : Type} (f : α → Bool) (xs : List α) : kAll [.lst (xs.map fun x => .bl (f x))] = some (.bl (xs.all f)) := by
  show (match blsD (xs.map fun x => D.bl (f x)) with
    | some ns => some (D.bl (ns.all id))
    | none => none) = _
  rw [blsD_of]
  simp
/-- two lists of ints -/
theorem eqvAll_int : ∀ xs ys : List Int, PyData.eqvAll (D.pys (xs.map D.int)) (D.pys (ys.map D.int)) = (xs == ys)
  | [], [] => rfl
  | [], y :: ys => rfl
  | x :: xs, [] => rfl
  | x :: xs, y :: ys => by
    simp only [List.map_cons, D.pys, D.py, PyData.eqvAll, eqvAll_int xs ys, PyData.eqv]
    rfl
theorem ints_lay : ∀ ts : List Int, PyData.canLayAll0 (D.pys (ts.map D.int)) = true
  | [] => by simp [D.pys, PyData.canLayAll0]
  | t :: ts => by
    simp only [List.map_cons, D.pys, PyData.canLayAll0, Bool.and_eq_true]
    exact ⟨by simp [D.py, PyData.canLay0], ints_lay ts⟩
theorem ints_dep : ∀ ts : List Int, PyData.depthAll (D.pys (ts.map D.int)) = 0
  | [] => by simp [D.pys, PyData.depthAll]
  | t :: ts => by
    simp only [List.map_cons, D.pys, PyData.depthAll, ints_dep ts]
    simp [D.py, PyData.depth]
theorem lst_shaped (ts : List Int) : SeqAt.shaped (D.lst (ts.map D.int)).py = true := by
  unfold SeqAt.shaped
  simp only [D.py, PyData.canLay0, PyData.depth]
  rw [ints_lay ts, ints_dep ts]
  rfl
theorem eq_ints (xs ys : List Int) : kEq (.lst (xs.map D.int)) (.lst (ys.map D.int)) = some (.bl (xs == ys)) := by
  unfold kEq
  rw [if_pos ⟨lst_shaped xs, lst_shaped ys⟩]
  simp only [D.py, PyData.eqv]
  rw [eqvAll_int]
theorem sorted_lst (xs : List Int) : kSorted [.lst (xs.map D.int)] = some ((srt xs).map D.int) := by simp [kSorted, D.items, intsD_map]
theorem sorted_tup (xs : List Int) : kSorted [.tup (xs.map D.int)] = some ((srt xs).map D.int) := by simp [kSorted, D.items, intsD_map]
theorem rng1_int {m : EM} {env : Env} {q q2 : Pen} {n : Int} (h : m env q = .ok (.int n) q2) (h0 : 0 ≤ n) (hn : n ≤ 1000000) : mRng1 m env q = .ok ((rgI n.toNat).map D.int) q2 := by
  unfold mRng1
  rw [h]
  show (if -(2 ^ 62) ≤ n ∧ n < 2 ^ 62 then Out.ok (rgN 0 n.toNat) q2 else .bad) = _
  rw [if_pos ⟨by omega, by omega⟩, rgN0]
/-! ### lists of pairs -/
theorem sl_take (ts : List (Int × Int)) {t : Int} (h : 0 ≤ t) : kSl (prsD ts) none (some t) = some (prsD (ts.take t.toNat)) := by
  show some (D.tup (cutD _ _ _)) = _
  rw [cut_take _ h, ← List.map_take]
  rfl
theorem sl_drop (ts : List (Int × Int)) {t : Int} (h : 0 ≤ t) : kSl (prsD ts) (some t) none = some (prsD (ts.drop t.toNat)) := by
  show some (D.tup (cutD _ _ _)) = _
  rw [cut_drop _ h, ← List.map_drop]
  rfl
theorem add_prs (a b : List (Int × Int)) (h : a.length + b.length ≤ sizeLine) : kAdd (prsD a) (prsD b) = some (prsD (a ++ b)) := by
  show (if (a.map prD).length + (b.map prD).length ≤ sizeLine then some (D.tup (a.map prD ++ b.map prD)) else none) = _
  rw [List.length_map, List.length_map, if_pos h, ← List.map_append]
  rfl
theorem len_prs (ts : List (Int × Int)) : kLen [prsD ts] = some (.int ts.length) := by simp [prsD, kLen]
theorem ix_prs (ts : List (Int × Int)) {i : Int} (h0 : 0 ≤ i) (h1 : i < ts.length) : kIx (prsD ts) (.int i) = some (prD (ts[i.toNat]'(by omega))) := by
  show L2.atI (ts.map prD) i = _
  rw [atI_of _ h0 (by rw [List.length_map]; exact h1)]
  simp
end Pu
end

section
set_option maxHeartbeats 4000000
namespace Pu
open PySem PySem.Spec PyProof.Rows L2
/-! ### values that repr shows -/
theorem shw_int {r : Int} (h : r.natAbs < 10 ^ 45) : Shw 0 0 (.int r) := by
  have h1 := int_text_length_le10 (a := r) (k := 45) (by decide) h
  refine ⟨rfl, ?_, ?_, Nat.le_refl _, Nat.le_refl _⟩
  · show decide (r.natAbs.log2 < 1920) = true
    rw [decide_eq_true_eq]
    by_cases h0 : r.natAbs = 0
    · rw [h0]
      decide
    · rw [Nat.log2_lt h0]
      exact Nat.lt_of_lt_of_le (Nat.lt_trans h (show (10 : Nat) ^ 45 < 2 ^ 150 by decide)) (Nat.pow_le_pow_right (by decide) (by decide))
  · show decide ((PyData.shown (.int r)).length ≤ 50) = true
    rw [decide_eq_true_eq]
    simp only [PyData.shown]
    rw [Str.ofString_eq_toList]
    show ((toString r).toList.map Char.toNat).toArray.size ≤ 50
    have e : (toString r).toList.length = (toString r).length := String.length_toList ..
    simp only [List.size_toArray, List.length_map]
    omega
theorem shw_non : Shw 0 0 .non := ⟨rfl, rfl, rfl, Nat.le_refl _, Nat.le_refl _⟩
theorem shw_bl (b : Bool) : Shw 0 0 (.bl b) := ⟨rfl, rfl, rfl, Nat.le_refl _, Nat.le_refl _⟩
mutual
theorem noX_okP : ∀ d : D, d.okP = true → d.noX = true
  | .non, _ => by simp [D.noX]
  | .bl b, _ => by simp [D.noX]
  | .int i, _ => by simp [D.noX]
  | .str x, _ => by simp [D.noX]
  | .tup xs, h => by
    simp only [D.okP] at h
    simp only [D.noX]
    exact noX_okPs xs h
  | .lst xs, h => by
    simp only [D.okP] at h
    simp only [D.noX]
    exact noX_okPs xs h
  | .dct ks, h => by
    simp only [D.okP] at h
    simp only [D.noX]
    exact noX_okPk ks h
  | .obj c fs, h => by simp [D.okP] at h
  | .pen, h => by simp [D.okP] at h
  | .fn x, h => by simp [D.okP] at h
  | .ty n, h => by simp [D.okP] at h
  | .exc c fs, h => by simp [D.okP] at h
  | .scr ns, h => by simp [D.okP] at h
  | .clo, h => by simp [D.okP] at h
  | .lam _, h => by simp [D.okP] at h
theorem noX_okPs : ∀ xs : List D, D.okPs xs = true → D.noXs xs = true
  | [], _ => by simp [D.noXs]
  | x :: xs, h => by
    simp only [D.okPs, Bool.and_eq_true] at h
    simp only [D.noXs, Bool.and_eq_true]
    exact ⟨noX_okP x h.1, noX_okPs xs h.2⟩
theorem noX_okPk : ∀ ks : List (Key × D), D.okPk ks = true → D.noXk ks = true
  | [], _ => by simp [D.noXk]
  | (k, x) :: ks, h => by
    simp only [D.okPk, Bool.and_eq_true] at h
    simp only [D.noXk, Bool.and_eq_true]
    exact ⟨noX_okP x h.1, noX_okPk ks h.2⟩
end
mutual
theorem noC_okP : ∀ d : D, d.okP = true → d.noC = true
  | .non, _ => by simp [D.noC]
  | .bl b, _ => by simp [D.noC]
  | .int i, _ => by simp [D.noC]
  | .str x, _ => by simp [D.noC]
  | .tup xs, h => by
    simp only [D.okP] at h
    simp only [D.noC]
    exact noC_okPs xs h
  | .lst xs, h => by
    simp only [D.okP] at h
    simp only [D.noC]
    exact noC_okPs xs h
  | .dct ks, h => by
    simp only [D.okP] at h
    simp only [D.noC]
    exact noC_okPk ks h
  | .obj c fs, h => by simp [D.okP] at h
  | .pen, h => by simp [D.okP] at h
  | .fn x, h => by simp [D.okP] at h
  | .ty n, h => by simp [D.okP] at h
  | .exc c fs, h => by simp [D.okP] at h
  | .scr ns, h => by simp [D.okP] at h
  | .clo, h => by simp [D.okP] at h
  | .lam _, h => by simp [D.okP] at h
theorem noC_okPs : ∀ xs : List D, D.okPs xs = true → D.noCs xs = true
  | [], _ => by simp [D.noCs]
  | x :: xs, h => by
    simp only [D.okPs, Bool.and_eq_true] at h
    simp only [D.noCs, Bool.and_eq_true]
    exact ⟨noC_okP x h.1, noC_okPs xs h.2⟩
theorem noC_okPk : ∀ ks : List (Key × D), D.okPk ks = true → D.noCk ks = true
  | [], _ => by simp [D.noCk]
  | (k, x) :: ks, h => by
    simp only [D.okPk, Bool.and_eq_true] at h
    simp only [D.noCk, Bool.and_eq_true]
    exact ⟨noC_okP x h.1, noC_okPk ks h.2⟩
end
theorem strOk_of {x : Str} (h : Sm x) : PyData.strOk x = true := by
  unfold PyData.strOk
  rw [← Array.all_toList, List.all_eq_true]
  exact fun c hc => decide_eq_true (h c hc)
theorem smL_str {x : Str} (h : Sm x) : smL (.str x) = true := by
  simp only [smL, List.all_eq_true, decide_eq_true_eq]
  exact h
/-- a value that may stand in an error -/
structure Odd (d : D) : Prop where
  ok : d.okP = true
  bs : d.bs = true
  rep : kRepr [d] = some (.str d.pr.shown)
  sm : Sm d.pr.shown
theorem Odd.noX {d : D} (h : Odd d) : d.noX = true := noX_okP d h.ok
theorem Odd.noC {d : D} (h : Odd d) : d.noC = true := noC_okP d h.ok
theorem odd_of {B n : Nat} {d : D} (h : Shw B n d) (hB : B < 60) (hn : n ≤ 300000) (hb : d.bs = true) (hs : smL d.pr = true) : Odd d := ⟨h.ok, hb, h.repr hB (by omega), sm_shown _ hs⟩
theorem odd_int {r : Int} (h : r.natAbs < 10 ^ 45) : Odd (.int r) := odd_of (shw_int h) (by decide) (by decide) rfl rfl
theorem odd_non : Odd .non := odd_of shw_non (by decide) (by decide) rfl rfl
theorem odd_bl (b : Bool) : Odd (.bl b) := odd_of (shw_bl b) (by decide) (by decide) rfl rfl
theorem odd_str {x : Str} (h : Sm x) (hl : x.length ≤ 300000) : Odd (.str x) := odd_of (Shw.str h) (by decide) hl rfl (smL_str h)
theorem shws_ints : ∀ {ns : List Int}, (∀ n ∈ ns, n.natAbs < 10 ^ 45) → Shws 0 ns.length (ns.map D.int)
  | [], _ => .nil
  | n :: ns, h => by
    have e : (n :: ns).length = 0 + 1 + ns.length := by rw [List.length_cons]; omega
    rw [e]
    exact .cons (shw_int (h n List.mem_cons_self)) (shws_ints fun x hx => h x (List.mem_cons_of_mem _ hx))
theorem smLs_ints : ∀ (ns : List Int), smLs (D.prs (ns.map D.int)) = true
  | [] => rfl
  | n :: ns => by
    simp only [List.map_cons, D.prs, smLs, Bool.and_eq_true]
    exact ⟨rfl, smLs_ints ns⟩
theorem odd_ints {ns : List Int} (h : ∀ n ∈ ns, n.natAbs < 10 ^ 45) (hl : ns.length ≤ 300000) : Odd (.tup (ns.map D.int)) := odd_of (Shw.tup (shws_ints h)) (by decide) hl rfl (by
  simp only [D.pr, smL]
  exact smLs_ints ns)
theorem odd_lst {ns : List Int} (h : ∀ n ∈ ns, n.natAbs < 10 ^ 45) (hl : ns.length ≤ 300000) : Odd (.lst (ns.map D.int)) := odd_of (Shw.lst (shws_ints h)) (by decide) hl rfl (by
  simp only [D.pr, smL]
  exact smLs_ints ns)
theorem shaped_strs3 {a b c : Str} (ha : Sm a) (hb : Sm b) (hc : Sm c) : SeqAt.shaped (D.tup [.str a, .str b, .str c]).py = true := by
  simp [D.py, D.pys, SeqAt.shaped, PyData.canLay0, PyData.canLayAll0, PyData.depth, PyData.depthAll, strOk_of ha, strOk_of hb, strOk_of hc]
end Pu
end

section
set_option maxHeartbeats 4000000
namespace Pu
open PySem PySem.Spec PyProof.Rows L2
/-! ### loops with a return -/
/-- the first that fits is returned; the pen stays -/
theorem loop_find {α : Type} {g : GM} {b : SM} {q : Pen} (c : α → D) (I : Env → Prop) (t : α → Bool) (r : α → D) : ∀ (xs : List α),
    (∀ x ∈ xs, ∀ env, I env → ∃ e1, g (c x) env = some e1 ∧ (t x = true → b e1 q = .ret (r x) q) ∧ (t x = false → ∃ e2, (b e1 q = .next e2 q ∨ b e1 q = .cnt e2 q) ∧ I e2)) →
    ∀ env, I env → match xs.find? t with
      | some x => loopS g b (xs.map c) env q = .ret (r x) q
      | none => ∃ e2, loopS g b (xs.map c) env q = .next e2 q ∧ I e2
  | [], _, env, hi => ⟨env, rfl, hi⟩
  | x :: xs, h, env, hi => by
    obtain ⟨e1, h1, h2, h3⟩ := h x List.mem_cons_self env hi
    rw [List.find?_cons]
    cases ht : t x with
    | true =>
      show loopS g b (c x :: xs.map c) env q = _
      simp only [loopS, h1, h2 ht]
    | false =>
      obtain ⟨e2, h4, h5⟩ := h3 ht
      have ih := loop_find c I t r xs (fun y hy => h y (List.mem_cons_of_mem _ hy)) e2 h5
      have e : loopS g b ((x :: xs).map c) env q = loopS g b (xs.map c) e2 q := by
        rw [List.map_cons]
        rcases h4 with h4 | h4 <;> simp only [loopS, h1, h4]
      simp only [e]
      exact ih
/-- some value is returned that fits, or the loop goes to its end -/
theorem loop_or {α : Type} {g : GM} {b : SM} (c : α → D) (I : Env → Pen → Prop) (R : D → Pen → Prop) : ∀ (xs : List α),
    (∀ x ∈ xs, ∀ env q, I env q → ∃ e1, g (c x) env = some e1 ∧ ((∃ d q2, b e1 q = .ret d q2 ∧ R d q2) ∨ ∃ e2 q2, (b e1 q = .next e2 q2 ∨ b e1 q = .cnt e2 q2) ∧ I e2 q2)) →
    ∀ env q, I env q → (∃ d q2, loopS g b (xs.map c) env q = .ret d q2 ∧ R d q2) ∨ ∃ e2 q2, loopS g b (xs.map c) env q = .next e2 q2 ∧ I e2 q2
  | [], _, env, q, hi => .inr ⟨env, q, rfl, hi⟩
  | x :: xs, h, env, q, hi => by
    obtain ⟨e1, h1, h2⟩ := h x List.mem_cons_self env q hi
    rcases h2 with ⟨d, q2, h2, h3⟩ | ⟨e2, q2, h2, h3⟩
    · refine .inl ⟨d, q2, ?_, h3⟩
      rw [List.map_cons]
      simp only [loopS, h1, h2]
    · have ih := loop_or c I R xs (fun y hy => h y (List.mem_cons_of_mem _ hy)) e2 q2 h3
      have e : loopS g b ((x :: xs).map c) env q = loopS g b (xs.map c) e2 q2 := by
        rw [List.map_cons]
        rcases h2 with h2 | h2 <;> simp only [loopS, h1, h2]
      rw [e]
      exact ih
/-- ints from lo on -/
def rgF (lo : Int) (n : Nat) : List Int := (List.range n).map fun (i : Nat) => lo + (i : Int)
theorem rgN_map (lo : Int) (n : Nat) : rgN lo n = (rgF lo n).map D.int := by
  unfold rgN rgF
  rw [List.map_map]
  rfl
theorem rgF_len (lo : Int) (n : Nat) : (rgF lo n).length = n := by simp [rgF]
theorem rgF_mem {lo : Int} {n : Nat} {x : Int} : x ∈ rgF lo n ↔ lo ≤ x ∧ x < lo + n := by
  unfold rgF
  rw [List.mem_map]
  constructor
  · rintro ⟨i, hi, rfl⟩
    have := List.mem_range.mp hi
    omega
  · rintro ⟨h0, h1⟩
    exact ⟨(x - lo).toNat, List.mem_range.mpr (by omega), by omega⟩
theorem rgF_succ (lo : Int) (n : Nat) : rgF lo (n + 1) = lo :: rgF (lo + 1) n := by
  unfold rgF
  rw [List.range_succ_eq_map, List.map_cons, List.map_map]
  simp only [Int.natCast_zero, Int.add_zero, List.cons.injEq, true_and]
  congr 1
  funext i
  simp only [Function.comp, Int.natCast_succ]
  omega
theorem rng2_int {m m2 : EM} {env : Env} {q q2 q3 : Pen} {a b : Int} (h : m env q = .ok (.int a) q2) (h2 : m2 env q2 = .ok (.int b) q3) (a0 : -1000000 ≤ a) (a1 : a ≤ 1000000) (b0 : -1000000 ≤ b) (b1 : b ≤ 1000000) : mRng2 m m2 env q = .ok ((rgF a (b - a).toNat).map D.int) q3 := by
  rw [← rgN_map]
  unfold mRng2
  rw [h]
  show ((m2 env q2).bind fun d2 q2 => _) = _
  rw [h2]
  exact if_pos (by omega)
theorem ne_bl (a b : Bool) : kNe (.bl a) (.bl b) = some (.bl (!(a == b))) := by
  cases a <;> cases b <;> rfl
theorem eq_bl (a b : Bool) : kEq (.bl a) (.bl b) = some (.bl (a == b)) := by
  cases a <;> cases b <;> rfl
theorem ne_ints (xs ys : List Int) : kNe (.lst (xs.map D.int)) (.lst (ys.map D.int)) = some (.bl (!(xs == ys))) := by
  unfold kNe
  rw [if_pos ⟨lst_shaped xs, lst_shaped ys⟩]
  simp only [D.py, PyData.eqv]
  rw [eqvAll_int]
theorem gcd_ev (a b : Int) : kGcd [.int a, .int b] = some (.int (Int.gcd a b)) := rfl
theorem int1_int (i : Int) : kInt1 [.int i] = some (.int i) := rfl
theorem mul_int (i j : Int) : kMul (.int i) (.int j) = kMulI i j := rfl
theorem mod_int (i j : Int) : kMod (.int i) (.int j) = kModI i j := rfl
theorem is_non (d : D) : kIs d .non = some (.bl d.isN) := rfl
theorem isnt_non (d : D) : kIsNot d .non = some (.bl (!d.isN)) := rfl
end Pu
end

section
set_option maxHeartbeats 4000000
namespace Pu
open PySem PySem.Spec PyProof.Rows L2
theorem eqE_nil (xs : List D) : kEqE (.lst xs) (.lst []) = some (.bl xs.isEmpty) := by
  cases xs with
  | nil =>
    show (if ([] : List D).length ≠ ([] : List D).length then some (D.bl false) else kEq (.lst []) (.lst [])) = _
    rw [if_neg (by simp)]
    exact eq_refl (by decide)
  | cons x xs =>
    show (if (x :: xs).length ≠ ([] : List D).length then some (D.bl false) else kEq (.lst (x :: xs)) (.lst [])) = _
    rw [if_pos (by simp)]
    rfl
/-- a comprehension whose items move the pen -/
theorem compL_pen {g : GM} {te : EM} {env : Env} (P : D → Prop) : ∀ (ds : List D) (q : Pen), (∀ d ∈ ds, ∀ q, ∃ e1, g d env = some e1 ∧ ∃ x q', te e1 q = .ok x q' ∧ P x) → ∃ xs q', compL g tmYes te env ds q = .ok xs q' ∧ xs.length = ds.length ∧ ∀ x ∈ xs, P x
  | [], q, _ => ⟨[], q, rfl, rfl, fun x hx => by cases hx⟩
  | d :: ds, q, h => by
    obtain ⟨e1, h1, x, q1, h2, px⟩ := h d List.mem_cons_self q
    obtain ⟨xs, q2, h3, hl, hp⟩ := compL_pen P ds q1 fun y hy => h y (List.mem_cons_of_mem _ hy)
    refine ⟨x :: xs, q2, ?_, by rw [List.length_cons, List.length_cons, hl], fun y hy => ?_⟩
    · unfold compL
      rw [h1]
      show ((te e1 q).ne.bind fun x p2 => _) = _
      rw [h2]
      show ((compL g tmYes te env ds q1).bind fun xs p3 => _) = _
      rw [h3]
      rfl
    · rcases List.mem_cons.mp hy with rfl | hy
      · exact px
      · exact hp y hy
theorem comp_pen {it : AM} {vs : List Nat} {g : GM} {te : EM} {env : Env} {q q1 : Pen} {ds : List D} (P : D → Prop) (hi : it env q = .ok ds q1) (hl : ds.length ≤ sizeLine)
    (h : ∀ d ∈ ds, ∀ q, ∃ e1, g d (wipeE env vs) = some e1 ∧ ∃ x q', te e1 q = .ok x q' ∧ P x) : ∃ xs q', mComp it vs g tmYes te env q = .ok xs q' ∧ xs.length = ds.length ∧ ∀ x ∈ xs, P x := by
  obtain ⟨xs, q', h1, h2⟩ := compL_pen P ds q1 h
  refine ⟨xs, q', ?_, h2⟩
  unfold mComp
  rw [hi, bind_ok, if_pos hl]
  exact h1
end Pu
end

section
set_option maxHeartbeats 4000000
namespace Pu
open PySem PySem.Spec PyProof.Rows L2
/-- a comprehension whose items move the pen, each item bound to its source -/
theorem compL_rel {β : Type} {g : GM} {te : EM} {env : Env} (c : β → D) (R : D → β → Prop) : ∀ (ds : List D) (q : Pen), (∀ d ∈ ds, ∀ q, ∃ e1, g d env = some e1 ∧ ∃ (y : β) (q' : Pen), te e1 q = .ok (c y) q' ∧ R d y) → ∃ (ys : List β) (q' : Pen), compL g tmYes te env ds q = .ok (ys.map c) q' ∧ ys.length = ds.length ∧ (∀ y ∈ ys, ∃ d ∈ ds, R d y) ∧ (∀ d ∈ ds, ∃ y ∈ ys, R d y)
  | [], q, _ => ⟨[], q, rfl, rfl, (fun x hx => by cases hx), (fun x hx => by cases hx)⟩
  | d :: ds, q, h => by
    obtain ⟨e1, h1, x, q1, h2, px⟩ := h d List.mem_cons_self q
    obtain ⟨xs, q2, h3, hl, hp, hp2⟩ := compL_rel c R ds q1 fun y hy => h y (List.mem_cons_of_mem _ hy)
    refine ⟨x :: xs, q2, ?_, by rw [List.length_cons, List.length_cons, hl], fun y hy => ?_, fun y hy => ?_⟩
    · unfold compL
      rw [h1]
      show ((te e1 q).ne.bind fun x p2 => _) = _
      rw [h2]
      show ((compL g tmYes te env ds q1).bind fun xs p3 => _) = _
      rw [h3]
      rfl
    · rcases List.mem_cons.mp hy with rfl | hy
      · exact ⟨d, List.mem_cons_self, px⟩
      · obtain ⟨z, h1, h2⟩ := hp y hy
        exact ⟨z, List.mem_cons_of_mem _ h1, h2⟩
    · rcases List.mem_cons.mp hy with rfl | hy
      · exact ⟨x, List.mem_cons_self, px⟩
      · obtain ⟨z, h1, h2⟩ := hp2 y hy
        exact ⟨z, List.mem_cons_of_mem _ h1, h2⟩
theorem comp_rel {β : Type} {it : AM} {vs : List Nat} {g : GM} {te : EM} {env : Env} {q q1 : Pen} {ds : List D} (c : β → D) (R : D → β → Prop) (hi : it env q = .ok ds q1) (hl : ds.length ≤ sizeLine)
    (h : ∀ d ∈ ds, ∀ q, ∃ e1, g d (wipeE env vs) = some e1 ∧ ∃ (y : β) (q' : Pen), te e1 q = .ok (c y) q' ∧ R d y) : ∃ (ys : List β) (q' : Pen), mComp it vs g tmYes te env q = .ok (ys.map c) q' ∧ ys.length = ds.length ∧ (∀ y ∈ ys, ∃ d ∈ ds, R d y) ∧ (∀ d ∈ ds, ∃ y ∈ ys, R d y) := by
  obtain ⟨xs, q', h1, h2⟩ := compL_rel c R ds q1 h
  refine ⟨xs, q', ?_, h2⟩
  unfold mComp
  rw [hi, bind_ok, if_pos hl]
  exact h1
theorem fn1 {f : FM} {a : EM} {env : Env} {q q1 : Pen} {d : D} (h : a env q = .ok d q1) : mFn f (aCons a aNil) env q = f [d] q1 := by
  unfold mFn aCons
  rw [h]
  rfl
theorem fn2 {f : FM} {a b : EM} {env : Env} {q q1 q2 : Pen} {d e : D} (h : a env q = .ok d q1) (h2 : b env q1 = .ok e q2) : mFn f (aCons a (aCons b aNil)) env q = f [d, e] q2 := by
  have x : aCons b aNil env q1 = .ok [e] q2 := by
    unfold aCons
    rw [h2]
    rfl
  unfold mFn
  rw [show aCons a (aCons b aNil) env q = .ok [d, e] q2 by
    rw [aCons, h, bind_ok, x]
    rfl]
  rfl
theorem fn3 {f : FM} {a b c : EM} {env : Env} {q q1 q2 q3 : Pen} {d e k : D} (h : a env q = .ok d q1) (h2 : b env q1 = .ok e q2) (h3 : c env q2 = .ok k q3) : mFn f (aCons a (aCons b (aCons c aNil))) env q = f [d, e, k] q3 := by
  have y : aCons c aNil env q2 = .ok [k] q3 := by
    rw [aCons, h3]
    rfl
  have x : aCons b (aCons c aNil) env q1 = .ok [e, k] q3 := by
    rw [aCons, h2, bind_ok, y]
    rfl
  unfold mFn
  rw [show aCons a (aCons b (aCons c aNil)) env q = .ok [d, e, k] q3 by
    rw [aCons, h, bind_ok, x]
    rfl]
  rfl
theorem ext_of {i : Nat} {m : EM} {env : Env} {ds es : List D} {d : D} {q q1 : Pen} (h1 : env[i]? = some (.own ds)) (h : m env q = .ok d q1) (hi : d.items = some es) (hl : ds.length + es.length ≤ sizeLine) : mExtS i m env q = .next (env.set i (.own (ds ++ es))) q1 := by
  unfold mExtS
  rw [h1]
  show (m env q).res env _ = _
  rw [h, res_ok, hi]
  exact if_pos hl
section
variable {env : Env} {q q1 q2 : Pen} {d e z : D} {ds : List D} {a : EM} {b : EM} {r : AM}
theorem ac0 : aNil env q = .ok [] q := rfl
theorem acc (h : a env q = .ok d q1) (h2 : r env q1 = .ok ds q2) : aCons a r env q = .ok (d :: ds) q2 := by
  rw [aCons, h, bind_ok, h2]
  rfl
theorem call_of {k : List D → Option D} (h : r env q = .ok ds q1) (hk : k ds = some z) : mCall k r env q = .ok z q1 := by
  unfold mCall
  rw [h, bind_ok, hk]
theorem tup_of (h : r env q = .ok ds q1) (hl : ds.length ≤ 1000) : mTup r env q = .ok (.tup ds) q1 := by
  unfold mTup
  rw [h, bind_ok, if_pos (by rw [sizeLine_eq]; omega)]
theorem fn_of' {f : FM} (h : r env q = .ok ds q1) : mFn f r env q = f ds q1 := by
  unfold mFn
  rw [h, bind_ok]
theorem ret_of (h : a env q = .ok d q1) : mRet a env q = .ret d q1 := by
  unfold mRet
  rw [h, res_ok]
theorem set_of {g : GM} {e1 : Env} (h : a env q = .ok d q1) (hg : g d env = some e1) : mSet a g env q = .next e1 q1 := by
  unfold mSet
  rw [h, res_ok, hg]
theorem if_t {t : TM} {x y : SM} (h : t env q = .ok true q1) : mIfS t x y env q = x env q1 := by
  unfold mIfS
  rw [h, res_ok]
  rfl
theorem if_f {t : TM} {x y : SM} (h : t env q = .ok false q1) : mIfS t x y env q = y env q1 := by
  unfold mIfS
  rw [h, res_ok]
  rfl
theorem op_of {k : D → D → Option D} (h : a env q = .ok d q1) (h2 : b env q1 = .ok e q2) (hk : k d e = some z) : mOp k a b env q = .ok z q2 := by
  unfold mOp
  rw [h, bind_ok, h2, bind_ok, hk]
theorem t_of {x : Bool} (h : a env q = .ok (.bl x) q1) : mT a env q = .ok x q1 := by
  unfold mT
  rw [h, bind_ok]
theorem or_ff {s t : TM} (h : s env q = .ok false q1) (h2 : t env q1 = .ok false q2) : mTOr s t env q = .ok false q2 := by
  unfold mTOr
  rw [h, bind_ok]
  exact h2
theorem ife_t {t : TM} {x y : EM} (h : t env q = .ok true q1) : mIf t x y env q = x env q1 := by
  unfold mIf
  rw [h]
  rfl
theorem ife_f {t : TM} {x y : EM} (h : t env q = .ok false q1) : mIf t x y env q = y env q1 := by
  unfold mIf
  rw [h]
  rfl
theorem not_of {t : TM} {x : Bool} (h : t env q = .ok x q1) : mTNot t env q = .ok (!x) q1 := by
  unfold mTNot
  rw [h, bind_ok]
end
def atN (ns : List Int) (x : Int) : Int := ns.getD x.toNat 0
section
variable {env : Env} {q q1 q2 : Pen} {d : D} {ds : List D} {a b : EM} {r : AM}
theorem ixN_in {n : Nat} {k : Int} (h0 : 0 ≤ k) (h1 : k < n) : ixN n k = some k.toNat := by
  unfold ixN
  rw [if_pos h0, if_pos h1]
theorem atI_ints {cs : List Int} {k : Int} (h0 : 0 ≤ k) (h1 : k < cs.length) : L2.atI (cs.map D.int) k = some (.int (atN cs k)) := by
  rw [atI_of _ h0 (by rw [List.length_map]; exact h1), List.getElem_map]
  unfold atN
  rw [List.getD_eq_getElem?_getD, List.getElem?_eq_getElem (by omega)]
  rfl
theorem aug_of {f : Int → Int → Int} {i : Nat} {cs : List Int} {k v : Int} (h : env[i]? = some (.own (cs.map D.int))) (ha : a env q = .ok (.int k) q1) (h0 : 0 ≤ k) (h1 : k < cs.length) (hb : b env q1 = .ok (.int v) q2) : mAugIx f i a b env q = .next (env.set i (.own ((cs.set k.toNat (f (atN cs k) v)).map D.int))) q2 := by
  unfold mAugIx
  rw [h]
  show (a env q).res env _ = _
  rw [ha, res_ok]
  show (match ixN (cs.map D.int).length k, L2.atI (cs.map D.int) k with | some j, some (.int old) => (b env q1).res env _ | _, _ => .bad) = _
  rw [ixN_in h0 (by rw [List.length_map]; exact h1), atI_ints h0 h1]
  show (b env q1).res env _ = _
  rw [hb, res_ok, List.map_set]
theorem setix_of {i : Nat} {cs : List Int} {k v : Int} (hb : b env q = .ok (.int v) q1) (h : env[i]? = some (.own (cs.map D.int))) (ha : a env q1 = .ok (.int k) q2) (h0 : 0 ≤ k) (h1 : k < cs.length) : mSetIx i a b env q = .next (env.set i (.own ((cs.set k.toNat v).map D.int))) q2 := by
  unfold mSetIx
  rw [hb, res_ok, h]
  show (a env q1).res env _ = _
  rw [ha, res_ok]
  show (match ixN (cs.map D.int).length k with | some j => Res.next (env.set i (.own ((cs.map D.int).set j (.int v)))) q2 | none => Res.bad) = _
  rw [ixN_in h0 (by rw [List.length_map]; exact h1), List.map_set]
theorem mit_lst (h : a env q = .ok (.lst ds) q1) : mIt a env q = .ok ds q1 := by
  unfold mIt
  rw [h, bind_ok]
theorem mit_tup (h : a env q = .ok (.tup ds) q1) : mIt a env q = .ok ds q1 := by
  unfold mIt
  rw [h, bind_ok]
theorem raise_of {x : Str} {ns : List Str} (h : r env q = .ok ds q1) (hl : ds.length = ns.length) : mRaise x ns r env q = .err ⟨x, (ns.zip ds).reverse⟩ env q1 := by
  unfold mRaise
  rw [h, res_ok, if_pos hl]
theorem seto_of {i : Nat} (h : r env q = .ok ds q1) : mSetO r i env q = .next (env.set i (.own ds)) q1 := by
  unfold mSetO
  rw [h, res_ok]
theorem fr_of (h : r env q = .ok ds q1) : mFr r env q = .ok (.lst ds) q1 := by
  unfold mFr
  rw [h, bind_ok]
theorem fcall_of {k : List D → Option (List D)} {es : List D} (h : r env q = .ok ds q1) (hk : k ds = some es) : mFCall k r env q = .ok es q1 := by
  unfold mFCall
  rw [h, bind_ok, hk]
theorem fop_of {k : D → D → Option (List D)} {es : List D} {e : D} (h : a env q = .ok d q1) (h2 : b env q1 = .ok e q2) (hk : k d e = some es) : mFOp k a b env q = .ok es q2 := by
  unfold mFOp
  rw [h, bind_ok, h2, bind_ok, hk]
theorem drop_of (h : a env q = .ok d q1) : mDrop a env q = .next env q1 := by
  unfold mDrop
  rw [h, res_ok]
theorem drop_err {e : Err} (h : a env q = .err e q1) : mDrop a env q = .err e env q1 := by
  unfold mDrop
  rw [h]
  rfl
theorem set_err {g : GM} {e : Err} (h : a env q = .err e q1) : mSet a g env q = .err e env q1 := by
  unfold mSet
  rw [h]
  rfl
theorem ret_err {e : Err} (h : a env q = .err e q1) : mRet a env q = .err e env q1 := by
  unfold mRet
  rw [h]
  rfl
end
theorem if_skip {t : TM} {x : SM} {env : Env} {q q1 : Pen} (h : t env q = .ok false q1) : mIfS t x mNext env q = .next env q1 := by
  rw [if_f h]
  rfl
theorem fn3_err {f : FM} {a b c : EM} {env : Env} {q q1 q2 q3 : Pen} {d e : D} {x : Err} (h : a env q = .ok d q1) (h2 : b env q1 = .ok e q2) (h3 : c env q2 = .err x q3) : mFn f (aCons a (aCons b (aCons c aNil))) env q = .err x q3 := by
  have y : aCons c aNil env q2 = .err x q3 := by
    rw [aCons, h3]
    rfl
  have z : aCons b (aCons c aNil) env q1 = .err x q3 := by
    rw [aCons, h2, bind_ok, y]
    rfl
  unfold mFn
  rw [show aCons a (aCons b (aCons c aNil)) env q = .err x q3 by
    rw [aCons, h, bind_ok, z]
    rfl]
  rfl
theorem and_f {s t : TM} {env : Env} {q q1 : Pen} (h : s env q = .ok false q1) : mTAnd s t env q = .ok false q1 := by
  unfold mTAnd
  rw [h, bind_ok]
  rfl
theorem and_t {s t : TM} {env : Env} {q q1 : Pen} (h : s env q = .ok true q1) : mTAnd s t env q = t env q1 := by
  unfold mTAnd
  rw [h, bind_ok]
  rfl
theorem v_of {t : TM} {env : Env} {q q1 : Pen} {x : Bool} (h : t env q = .ok x q1) : mV t env q = .ok (.bl x) q1 := by
  unfold mV
  rw [h, bind_ok]
theorem lr_n {n : Int} (h0 : 0 ≤ n) (h1 : n ≤ 1000) : rgD 0 n = (rgI n.toNat).map D.int ∧ gRg 0 n = true := by
  refine ⟨?_, by simp [gRg]; omega⟩
  rw [← rgN0]
  unfold rgD rgN
  rw [Int.sub_zero]
end Pu
end

section
set_option maxHeartbeats 4000000
namespace Pu
namespace Lw
open PySem PySem.Spec PyProof.Rows L2
def okNs (ns : List Int) : Prop := ns.length ≤ 63 ∧ ∀ z ∈ ns, Builtin.Int.intBits z ≤ 1048576
def foldN (ns : List Int) : Int := ns.foldl (fun f c => (f * 47 + c).fmod 1000000007) 0
def pen0 (ns : List Int) : Pen := ⟨ns, 0, 0, 0, foldN ns⟩
theorem pen_loop (ns : List Int) (p : Pen) : ∀ (f : Int), f.natAbs < 2 ^ 64 → ∀ (l : List Int) (z : Slot), ∃ z', loopS (gNm 2) (mSet (mOp kMod (mCall kInt1 (aCons (mOp kAdd (mOp kMul (mVal 1) (mC (.int 47))) (mVal 2)) aNil)) (mC (.int 1000000007))) (gNm 1)) (l.map D.int) [.val (.scr ns), .val (.int f), z] p = .next [.val (.scr ns), .val (.int (l.foldl (fun f c => (f * 47 + c).fmod 1000000007) f)), z'] p := by
  intro f hf l
  induction l generalizing f with
  | nil => exact fun z => ⟨z, rfl⟩
  | cons c l ih =>
    intro z
    have hr := fmod_range (f * 47 + c) (b := 1000000007) (by decide)
    obtain ⟨z', hz⟩ := ih ((f * 47 + c).fmod 1000000007) (by omega) (.val (.int c))
    refine ⟨z', ?_⟩
    rw [List.map_cons, List.foldl_cons, ← hz]
    have e1 := small_mul (a := f) (b := 47) (.inl hf)
    have e2 := mod_ok (f * 47 + c) (b := 1000000007) (by decide)
    simp [loopS, gNm, mSet, mOp, mCall, aCons, aNil, mVal, mC, bind_ok, res_ok, e1, e2, kAdd, kInt1, kInt]
theorem m_pen (ns : List Int) (h : okNs ns) (p : Pen) : m__law_pen [.scr ns] p = .ok (.dct (penDs (pen0 ns))) p := by
  obtain ⟨z', hz⟩ := pen_loop ns p 0 (by decide) ns .un
  have hl : ns.length ≤ sizeLine := by rw [sizeLine_eq]; have := h.1; omega
  simp (decide := true) [m__law_pen, mDef, b__law_pen, env0, mSeq, mSet, mC, res_ok, gNm, mFor, mItS, mVal, bind_ok, hz, mRet, mDisp, mPairs, mFr, mFCall, kListS, aCons, aNil, Res.fin, penDs, pen0, kCells, kAt, kDigits, kCount, kFold, foldN]

/-- a draw: some number below many -/
theorem m_drawG (q : Pen) (many : Int) (h : 0 < many) (hg : gDiv many = true) : ∃ r q', m__law_draw [.pen, .int many] q = .ok (.int r) q' ∧ 0 ≤ r ∧ r < many := by
  have tail : ∀ (a b c : Slot) (q : Pen), ∃ r q', (mSeq (mIfS (mT (mOp kGt (mPenGet (.inr "digits") (mVal 0)) (mC (.int 0)))) (mSeq (mSet (mOp kMod (mCall kInt1 (aCons (mPenGet (.inr "digits") (mVal 0)) aNil)) (mVal 1)) (gNm 3))
    (mSeq (mPenPut 0 (.inr "digits") (mOp kDiv (mPenGet (.inr "digits") (mVal 0)) (mVal 1)))
    (mRet (mVal 3)))) mNext)
    (mSeq (mSet (mOp kMod (mCall kInt1 (aCons (mOp kAdd (mOp kAdd (mOp kMul (mPenGet (.inr "fold") (mVal 0)) (mC (.int 48271))) (mOp kMul (mPenGet (.inr "count") (mVal 0)) (mC (.int 7919)))) (mC (.int 13))) aNil)) (mC (.int 2147483647))) (gNm 4))
    (mSeq (mSet (mOp kMod (mCall kInt1 (aCons (mOp kAdd (mOp kAdd (mOp kMul (mVal 4) (mVal 4)) (mOp kMul (mC (.int 31)) (mVal 4))) (mPenGet (.inr "count") (mVal 0))) aNil)) (mC (.int 2147483629))) (gNm 4))
    (mSeq (mPenPut 0 (.inr "fold") (mOp kMod (mCall kInt1 (aCons (mOp kAdd (mOp kMul (mVal 4) (mC (.int 16807))) (mC (.int 7))) aNil)) (mC (.int 2147483647))))
    (mRet (mOp kMod (mCall kInt1 (aCons (mOp kDiv (mVal 4) (mC (.int 64))) aNil)) (mVal 1))))))) [.val .pen, .val (.int many), a, b, c] q = .ret (.int r) q' ∧ 0 ≤ r ∧ r < many := by
    intro a b c q
    by_cases hd : 0 < q.digits
    · refine ⟨q.digits.fmod many, { q with digits := q.digits.fdiv many }, ?_, fmod_range _ h⟩
      have e1 := mod_ok q.digits (b := many) (by omega)
      have e2 : kDivI q.digits many = some (.int (q.digits.fdiv many)) := by
        unfold kDivI
        rw [if_pos hg]
      simp [mSeq, mIfS, mT, mOp, mPenGet, mVal, mC, bind_ok, res_ok, pv_digits, ps_digits, kInt, hd, mSet, mCall, aCons, aNil, kInt1, e1, e2, gNm, mPenPut, mRet]
    · let b1 : Int := (q.fold * 48271 + q.count * 7919 + 13).fmod 2147483647
      let b2 : Int := (b1 * b1 + 31 * b1 + q.count).fmod 2147483629
      have r1 := fmod_range (q.fold * 48271 + q.count * 7919 + 13) (b := 2147483647) (by decide)
      have r2 := fmod_range (b1 * b1 + 31 * b1 + q.count) (b := 2147483629) (by decide)
      refine ⟨(b2.fdiv 64).fmod many, { q with fold := (b2 * 16807 + 7).fmod 2147483647 }, ?_, fmod_range _ h⟩
      have e1 := small_mul (a := q.fold) (b := 48271) (.inr (by decide))
      have e2 := small_mul (a := q.count) (b := 7919) (.inr (by decide))
      have e3 := mod_ok (q.fold * 48271 + q.count * 7919 + 13) (b := 2147483647) (by decide)
      have e4 := small_mul (a := b1) (b := b1) (.inl (by show b1.natAbs < _; have := r1.1; have := r1.2; omega))
      have e5 := small_mul (a := 31) (b := b1) (.inl (by decide))
      have e6 := mod_ok (b1 * b1 + 31 * b1 + q.count) (b := 2147483629) (by decide)
      have e7 := small_mul (a := b2) (b := 16807) (.inr (by decide))
      have e8 := mod_ok (b2 * 16807 + 7) (b := 2147483647) (by decide)
      have e9 := div_ok b2 (b := 64) (by decide) (by decide)
      have e10 := mod_ok (b2.fdiv 64) (b := many) (by omega)
      simp [mSeq, mIfS, mT, mOp, mPenGet, mVal, mC, bind_ok, res_ok, pv_digits, pv_fold, pv_count, ps_fold, kInt, hd, mSet, mCall, aCons, aNil, kInt1, kAdd, e1, e2, e3, e4, e5, e6, e7, e8, e9, e10, gNm, mPenPut, mRet, mNext, b1, b2]
  have pre : ∀ q : Pen, ∃ a q', (mIfS (mTAnd (mT (mOp kEq (mPenGet (.inr "digits") (mVal 0)) (mC (.int 0)))) (mT (mOp kLt (mPenGet (.inr "at") (mVal 0)) (mCall kLen (aCons (mPenGet (.inr "cells") (mVal 0)) aNil))))) (mSeq (mSet (mOp kIx (mPenGet (.inr "cells") (mVal 0)) (mPenGet (.inr "at") (mVal 0))) (gNm 2))
    (mSeq (mPenPut 0 (.inr "at") (mOp kAdd (mPenGet (.inr "at") (mVal 0)) (mC (.int 1))))
    (mIfS (mT (mOp kGe (mVal 2) (mOp kPow (mC (.int 10)) (mC (.int 18))))) (mPenPut 0 (.inr "digits") (mOp kSub (mVal 2) (mOp kPow (mC (.int 10)) (mC (.int 18))))) (mPenPut 0 (.inr "fold") (mOp kMod (mCall kInt1 (aCons (mOp kAdd (mOp kMul (mPenGet (.inr "fold") (mVal 0)) (mC (.int 69069))) (mVal 2)) aNil)) (mC (.int 2147483587))))))) mNext) [.val .pen, .val (.int many), .un, .un, .un] q = .next [.val .pen, .val (.int many), a, .un, .un] q' := by
    intro q
    by_cases hd : q.digits = 0
    · by_cases ha : q.at_ < q.cells.length
      · have hx : L2.atI (q.cells.map D.int) (q.at_ : Int) = some (.int q.cells[q.at_]) := by
          unfold L2.atI ixN
          rw [if_pos (by omega), if_pos (by rw [List.length_map]; omega)]
          show (q.cells.map D.int)[((q.at_ : Int)).toNat]? = _
          rw [Int.toNat_natCast, List.getElem?_map, List.getElem?_eq_getElem ha]
          rfl
        have ep : kPowI 10 18 = some (.int 1000000000000000000) := pow10 18 (by decide)
        have es := ps_at ((q.at_ : Int) + 1) (by omega)
        have e1 := small_mul (a := q.fold) (b := 69069) (.inr (by decide))
        have e2 := mod_ok (q.fold * 69069 + q.cells[q.at_]) (b := 2147483587) (by decide)
        have la : ((q.at_ : Int) < (q.cells.length : Int)) := by omega
        by_cases hc : (1000000000000000000 : Int) ≤ q.cells[q.at_]
        · refine ⟨.val (.int q.cells[q.at_]), { q with at_ := ((q.at_ : Int) + 1).toNat, digits := q.cells[q.at_] - 1000000000000000000 }, ?_⟩
          simp [mIfS, mTAnd, mT, mOp, mPenGet, mVal, mC, bind_ok, res_ok, pv_digits, pv_at, pv_cells, pv_fold, ps_digits, ps_fold, es, eq_int, hd, kInt, kLen, mCall, aCons, aNil, la, ha, mSeq, mSet, kIx, D.items, hx, gNm, mPenPut, kAdd, hc, ep]
        · refine ⟨.val (.int q.cells[q.at_]), { q with at_ := ((q.at_ : Int) + 1).toNat, fold := (q.fold * 69069 + q.cells[q.at_]).fmod 2147483587 }, ?_⟩
          simp [mIfS, mTAnd, mT, mOp, mPenGet, mVal, mC, bind_ok, res_ok, pv_digits, pv_at, pv_cells, pv_fold, ps_digits, ps_fold, es, eq_int, hd, kInt, kLen, mCall, aCons, aNil, la, ha, mSeq, mSet, kIx, D.items, hx, gNm, mPenPut, kAdd, hc, ep, e1, e2, kInt1]
      · refine ⟨.un, q, ?_⟩
        have la : ¬ ((q.at_ : Int) < (q.cells.length : Int)) := by omega
        simp [mIfS, mTAnd, mT, mOp, mPenGet, mVal, mC, bind_ok, res_ok, pv_digits, pv_at, pv_cells, eq_int, hd, kInt, kLen, mCall, aCons, aNil, la, ha, mNext]
    · refine ⟨.un, q, ?_⟩
      have hd2 : (q.digits == 0) = false := by simpa using hd
      simp [mIfS, mTAnd, mT, mOp, mPenGet, mVal, mC, bind_ok, res_ok, pv_digits, eq_int, hd2, mNext]
  obtain ⟨a, q1, h1⟩ := pre { q with count := q.count + 1 }
  obtain ⟨r, q2, h3, h4⟩ := tail a .un .un q1
  refine ⟨r, q2, ?_, h4⟩
  have e0 : (mPenPut 0 (.inr "count") (mOp kAdd (mPenGet (.inr "count") (mVal 0)) (mC (.int 1)))) [.val .pen, .val (.int many), .un, .un, .un] q = .next [.val .pen, .val (.int many), .un, .un, .un] { q with count := q.count + 1 } := by
    simp [mPenPut, mOp, mPenGet, mVal, mC, bind_ok, res_ok, pv_count, ps_count, kAdd]
  show (b__law_draw [.val .pen, .val (.int many), .un, .un, .un] q).fin = _
  have e1 : b__law_draw [.val .pen, .val (.int many), .un, .un, .un] q = .ret (.int r) q2 := by
    unfold b__law_draw
    rw [mSeq, e0]
    show mSeq _ _ _ _ = _
    rw [mSeq, h1]
    exact h3
  rw [e1]
  rfl
theorem m_draw (q : Pen) (many : Int) (h : 0 < many) (h2 : many < 1073741824) : ∃ r q', m__law_draw [.pen, .int many] q = .ok (.int r) q' ∧ 0 ≤ r ∧ r < many := m_drawG q many h (by
  unfold gDiv
  rw [decide_eq_true (show many ≠ 0 by omega), decide_eq_true (show many.natAbs < 1073741824 by omega)]
  rfl)
theorem m_pick (q : Pen) (d : D) (ds : List D) (hi : d.items = some ds) (hl : d = .lst ds ∨ d = .tup ds) (h : 0 < ds.length) (h2 : ds.length < 1073741824) : ∃ x q', x ∈ ds ∧ m__law_pick [.pen, d] q = .ok x q' := by
  obtain ⟨r, q', e, r0, r1⟩ := m_draw q ds.length (by omega) (by omega)
  have hr : r.toNat < ds.length := by omega
  refine ⟨ds[r.toNat], q', List.getElem_mem hr, ?_⟩
  have hx : L2.atI ds r = some ds[r.toNat] := by
    unfold L2.atI ixN
    rw [if_pos r0, if_pos r1]
    exact List.getElem?_eq_getElem hr
  have ek : kLen [d] = some (.int ds.length) := by
    rcases hl with rfl | rfl <;> rfl
  simp [m__law_pick, mDef, b__law_pick, env0, mRet, mOp, mVal, bind_ok, res_ok, mFn, aCons, aNil, mCall, ek, e, kIx, hi, hx, Res.fin]
end Lw
end Pu
end

section
set_option maxHeartbeats 4000000
namespace Pu
namespace Lw
open PySem PySem.Spec PyProof.Rows L2
theorem isi_I {d : D} (h : d.bs = true) : kIsi objL exL ask [d, .ty "int"] = some (.bl d.isI) := by
  cases d <;> first
    | (cases h; done)
    | simp [kIsi, D.tag, ask, askT, kb_NoneType_int, kb_bool_int, kb_int_int, kb_str_int, kb_tuple_int, kb_list_int, kb_dict_int, D.isI]
theorem isi_B {d : D} (h : d.bs = true) : kIsi objL exL ask [d, .ty "bool"] = some (.bl d.isB1) := by
  cases d <;> first
    | (cases h; done)
    | simp [kIsi, D.tag, ask, askT, kb_NoneType_bool, kb_bool_bool, kb_int_bool, kb_str_bool, kb_tuple_bool, kb_list_bool, kb_dict_bool, D.isB1]
theorem isi_L {d : D} (h : d.bs = true) : kIsiT objL ask [d, .tup [.ty "list", .ty "tuple"]] = some (.bl d.isL) := by
  cases d <;> first
    | (cases h; done)
    | simp [kIsiT, D.isCls, D.isExc, D.tag, askAny, ask, askT, kb_NoneType_list, kb_NoneType_tuple, kb_bool_list, kb_bool_tuple, kb_int_list, kb_int_tuple, kb_str_list, kb_str_tuple, kb_tuple_list, kb_tuple_tuple, kb_list_list, kb_dict_list, kb_dict_tuple, kb_list_tuple, D.isL]
theorem m_integer {d : D} (h : d.bs = true) (q : Pen) : m_is_integer [d] q = .ok (.bl d.isI1) q := by
  have h1 := isi_I h
  have h2 := isi_B h
  simp [m_is_integer, mDef, b_is_integer, env0, mRet, mV, mTAnd, mTNot, mT, mCall, aCons, aNil, mVal, mC, bind_ok, res_ok, h1, h2, Res.fin]
  cases d <;> simp [D.isI, D.isB1, D.isI1, bind_ok, res_ok]
theorem m_list {d : D} (h : d.bs = true) (q : Pen) : m_is_list [d] q = .ok (.bl d.isL) q := by
  have h1 := isi_L h
  simp (decide := true) [m_is_list, mDef, b_is_list, env0, mRet, mTup, mCall, aCons, aNil, mVal, mC, bind_ok, res_ok, h1, Res.fin, sizeLine_eq]
def rowD (ns : List Int) : D := .tup (ns.map D.int)
theorem gt_int (i j : Int) : kGt (.int i) (.int j) = some (.bl (decide (i > j))) := rfl
theorem isi_T {d : D} (h : d.bs = true) : kIsi objL exL ask [d, .ty "tuple"] = some (.bl (match d with | .tup _ => true | _ => false)) := by
  cases d <;> first
    | (cases h; done)
    | simp [kIsi, D.tag, ask, askT, kb_NoneType_tuple, kb_bool_tuple, kb_int_tuple, kb_str_tuple, kb_tuple_tuple, kb_list_tuple, kb_dict_tuple]
theorem isi_iS (i : Int) : kIsi objL exL ask [.int i, .ty "str"] = some (.bl false) := by
  simp [kIsi, D.tag, ask, askT, kb_int_str]
theorem shw_dct0 : Shw 1 0 (.dct []) := ⟨rfl, rfl, rfl, by decide, by decide⟩
structure Rp (d : D) : Prop where
  ok : d.okP = true
  rep : kRepr [d] = some (.str d.pr.shown)
  sm : Sm d.pr.shown
theorem Rp.noX {d : D} (h : Rp d) : d.noX = true := noX_okP d h.ok
theorem Rp.noC {d : D} (h : Rp d) : d.noC = true := noC_okP d h.ok
structure Od (d : D) : Prop where
  w : Shw 3 2000 d
  s : smL d.pr = true
  v : d.bs = true
theorem Od.rp {d : D} (h : Od d) : Rp d := ⟨h.w.ok, h.w.repr (by decide) (by decide), sm_shown _ h.s⟩
theorem od_of {B n : Nat} {d : D} (h : Shw B n d) (hB : B ≤ 3) (hn : n ≤ 2000) (hv : d.bs = true) (hs : smL d.pr = true) : Od d := ⟨h.mono hB hn, hs, hv⟩
theorem od_non : Od .non := od_of shw_non (by decide) (by decide) rfl rfl
theorem od_bl (b : Bool) : Od (.bl b) := od_of (shw_bl b) (by decide) (by decide) rfl rfl
theorem od_int {r : Int} (h : r.natAbs < 10 ^ 45) : Od (.int r) := od_of (shw_int h) (by decide) (by decide) rfl rfl
theorem od_str {x : Str} (h : Sm x) (hl : x.length ≤ 2000) : Od (.str x) := od_of (Shw.str h) (by decide) hl rfl (smL_str h)
theorem od_ints {ns : List Int} (h : ∀ n ∈ ns, n.natAbs < 10 ^ 45) (hl : ns.length ≤ 2000) : Od (.tup (ns.map D.int)) := od_of (Shw.tup (shws_ints h)) (by decide) hl rfl (by
  simp only [D.pr, smL]
  exact smLs_ints ns)
theorem od_lst {ns : List Int} (h : ∀ n ∈ ns, n.natAbs < 10 ^ 45) (hl : ns.length ≤ 2000) : Od (.lst (ns.map D.int)) := od_of (Shw.lst (shws_ints h)) (by decide) hl rfl (by
  simp only [D.pr, smL]
  exact smLs_ints ns)
theorem od_dct : Od (.dct []) := od_of shw_dct0 (by decide) (by decide) rfl rfl
theorem od_bi (b : Bool) {r : Int} (h : r.natAbs < 10 ^ 45) : Od (.tup [.bl b, .int r]) := od_of (Shw.tup (.cons (shw_bl b) (.cons (shw_int h) .nil))) (by decide) (by decide) rfl rfl
theorem rp_row {ds : List D} (h : ∀ d ∈ ds, Od d) (hl : ds.length ≤ 10) : Rp (.tup ds) := by
  have go : ∀ {l : List D}, (∀ d ∈ l, Od d) → Shws 3 (l.length * 2001) l := fun {l} hl => by
    induction l with
    | nil => exact .nil
    | cons d l ih =>
      have e : (d :: l).length * 2001 = 2000 + 1 + l.length * 2001 := by rw [List.length_cons]; omega
      rw [e]
      exact .cons (hl d List.mem_cons_self).w (ih fun x hx => hl x (List.mem_cons_of_mem _ hx))
  have gs : ∀ {l : List D}, (∀ d ∈ l, Od d) → smLs (D.prs l) = true := fun {l} hl => by
    induction l with
    | nil => rfl
    | cons d l ih =>
      simp only [D.prs, smLs, Bool.and_eq_true]
      exact ⟨(hl d List.mem_cons_self).s, ih fun x hx => hl x (List.mem_cons_of_mem _ hx)⟩
  have w := Shw.tup (go h)
  refine ⟨w.ok, w.repr (by decide) (by omega), sm_shown _ ?_⟩
  simp only [D.pr, smL]
  exact gs h
theorem m_indexesG {ds : List D} (hb : ∀ d ∈ ds, d.bs = true) (hl : ds.length ≤ 1000) (n : Int) (q : Pen) : m_is_indexes [.tup ds, .int n] q = .ok (.bl (decide ((ds.length : Int) = n) && ds.all D.isI1)) q := by
  have e1 := m_list (d := .tup ds) rfl q
  have e2 : kLen [.tup ds] = some (.int ds.length) := rfl
  have hc : mComp (mIt (mVal 0)) [2] (gNm 2) tmYes (mFn m_is_integer (aCons (mVal 2) aNil)) [.val (.tup ds), .val (.int n), .un] q = .ok (ds.map fun d => .bl d.isI1) q := comp_map (fun d => .bl d.isI1) rfl (by rw [sizeLine_eq]; omega) fun d hd => ⟨_, rfl, (fn1 rfl).trans (m_integer (hb d hd) q)⟩
  have ha : kAll [.lst (ds.map fun d => D.bl d.isI1)] = some (.bl (ds.all D.isI1)) := all_map _ _
  by_cases h : (ds.length : Int) = n
  · simp -implicitDefEqProofs [mDef, env0, env1, mDefI, mSeq, mSet, mSetO, mIfS, mTAnd, mTOr, mTNot, mT, mV, mIf, mOp, mChain, mCall, mFn, mFCall, mFr, mTup, mLst, aCons, aNil, mVal, mOwn, mC, mNeg, mNext, mRet, mDrop, bind_ok, bind_err, res_ok, res_err, Res.fin, Out.ne, gNm, gTp, gsCons, gsNil, mIt, mRng1, mSl, oNone, oSome, kInt, add_int, len_tup, len_lst, tuple_lst, tuple_tup, mMk, mIn, mFlds, putD, mChk, mDo, mRaise, mApp, mAppPop, mSetIx, mLRg, mRg1, mTRg, mRg2, mPar2, sVal, sOwn, sNil, D.isFn, sizeLine_eq, eq_int, ne_int, wipeE, m_is_indexes, b_is_indexes, e1, e2, D.isL, hc, ha, h]
  · simp -implicitDefEqProofs [mDef, env0, env1, mDefI, mSeq, mSet, mSetO, mIfS, mTAnd, mTOr, mTNot, mT, mV, mIf, mOp, mChain, mCall, mFn, mFCall, mFr, mTup, mLst, aCons, aNil, mVal, mOwn, mC, mNeg, mNext, mRet, mDrop, bind_ok, bind_err, res_ok, res_err, Res.fin, Out.ne, gNm, gTp, gsCons, gsNil, mIt, mRng1, mSl, oNone, oSome, kInt, add_int, len_tup, len_lst, tuple_lst, tuple_tup, mMk, mIn, mFlds, putD, mChk, mDo, mRaise, mApp, mAppPop, mSetIx, mLRg, mRg1, mTRg, mRg2, mPar2, sVal, sOwn, sNil, D.isFn, sizeLine_eq, eq_int, ne_int, wipeE, m_is_indexes, b_is_indexes, e1, e2, D.isL, hc, ha, h]
theorem ints_ex : ∀ {es : List D}, es.all D.isI1 = true → ∃ ns : List Int, es = ns.map D.int
  | [], _ => ⟨[], rfl⟩
  | e :: es, h => by
    rw [List.all_cons, Bool.and_eq_true] at h
    obtain ⟨ns, rfl⟩ := ints_ex h.2
    cases e with
    | int i => exact ⟨i :: ns, rfl⟩
    | _ => cases h.1
def isTp : D → Bool
  | .tup _ => true
  | _ => false
theorem isi_T2 {d : D} (h : d.bs = true) : kIsi objL exL ask [d, .ty "tuple"] = some (.bl (isTp d)) := by
  rw [isi_T h]
  cases d <;> rfl
theorem isTp_ex {d : D} (h : isTp d = true) : ∃ es, d = .tup es := by cases d <;> first | exact ⟨_, rfl⟩ | cases h
theorem filt_emp {α : Type} (f : α → Bool) : ∀ l : List α, (l.filter f).isEmpty = l.all fun x => !f x
  | [] => rfl
  | x :: l => by
    rw [List.filter_cons, List.all_cons, ← filt_emp f l]
    cases f x
    · rfl
    · rfl
/-! #### the law's divisor -/
theorem while_gcd (pen : Pen) : ∀ (n a b : Nat), b < n → ∃ z, whileS (mT (mOp kNe (mVal 1) (mC (.int 0)))) (mPar2 0 1 (sVal (mVal 1) (sVal (mOp kMod (mCall kInt1 (aCons (mVal 0) aNil)) (mVal 1)) sNil))) n [.val (.int a), .val (.int b)] pen = .next [.val (.int (Nat.gcd a b : Nat)), z] pen := by
  intro n
  induction n with
  | zero => intro a b h; omega
  | succ n ih =>
    intro a b h
    by_cases hb : b = 0
    · subst hb
      refine ⟨.val (.int 0), ?_⟩
      unfold whileS
      simp -implicitDefEqProofs [mDef, env0, env1, mDefI, mSeq, mSet, mSetO, mIfS, mTAnd, mTOr, mTNot, mT, mV, mIf, mOp, mChain, mCall, mFn, mFCall, mFr, mTup, mLst, aCons, aNil, mVal, mOwn, mC, mNeg, mNext, mRet, mDrop, bind_ok, bind_err, res_ok, res_err, Res.fin, Out.ne, gNm, gTp, gsCons, gsNil, mIt, mRng1, mSl, oNone, oSome, kInt, add_int, len_tup, len_lst, tuple_lst, tuple_tup, mMk, mIn, mFlds, putD, mChk, mDo, mRaise, mApp, mAppPop, mSetIx, mLRg, mRg1, mTRg, mRg2, mPar2, sVal, sOwn, sNil, D.isFn, sizeLine_eq, eq_int, ne_int, wipeE]
    · have hl : a % b < b := Nat.mod_lt _ (by omega)
      obtain ⟨z, e⟩ := ih b (a % b) (by omega)
      refine ⟨z, ?_⟩
      have e2 : Nat.gcd a b = Nat.gcd b (a % b) := by
        rw [Nat.gcd_comm a b, Nat.gcd_rec b a, Nat.gcd_comm]
      rw [e2, ← e]
      have k : kModI a b = some (.int ((a % b : Nat) : Int)) := by
        rw [mod_ok _ (by omega), Int.fmod_eq_emod_of_nonneg _ (by omega)]
        rfl
      have hb2 : ¬ ((b : Int) = 0) := by omega
      rw [whileS]
      simp -implicitDefEqProofs [mDef, env0, env1, mDefI, mSeq, mSet, mSetO, mIfS, mTAnd, mTOr, mTNot, mT, mV, mIf, mOp, mChain, mCall, mFn, mFCall, mFr, mTup, mLst, aCons, aNil, mVal, mOwn, mC, mNeg, mNext, mRet, mDrop, bind_ok, bind_err, res_ok, res_err, Res.fin, Out.ne, gNm, gTp, gsCons, gsNil, mIt, mRng1, mSl, oNone, oSome, kInt, add_int, len_tup, len_lst, tuple_lst, tuple_tup, mMk, mIn, mFlds, putD, mChk, mDo, mRaise, mApp, mAppPop, mSetIx, mLRg, mRg1, mTRg, mRg2, mPar2, sVal, sOwn, sNil, D.isFn, sizeLine_eq, eq_int, ne_int, wipeE, k, hb, hb2, int1_int]
theorem m_divisor (a b : Int) (pen : Pen) : m__law_divisor [.int a, .int b] pen = .ok (.int (Int.gcd a b)) pen := by
  obtain ⟨z, e⟩ := while_gcd pen (b.natAbs + 1) a.natAbs b.natAbs (by omega)
  have ka : ∀ i : Int, kAbs [.int i] = some (.int (i.natAbs : Nat)) := fun i => by
    show some (D.int (if i < 0 then -i else i)) = _
    congr 2
    split <;> omega
  have hw : mWhile (fuelI 1) (mT (mOp kNe (mVal 1) (mC (.int 0)))) (mPar2 0 1 (sVal (mVal 1) (sVal (mOp kMod (mCall kInt1 (aCons (mVal 0) aNil)) (mVal 1)) sNil))) [.val (.int a.natAbs), .val (.int b.natAbs)] pen = _ := e
  have e1 : b__law_divisor [.val (.int a), .val (.int b)] pen = .ret (.int (Int.gcd a b)) pen := by
    unfold b__law_divisor
    rw [seq_next (e2 := [.val (.int a.natAbs), .val (.int b.natAbs)]) (q2 := pen) (by simp -implicitDefEqProofs [mDef, env0, env1, mDefI, mSeq, mSet, mSetO, mIfS, mTAnd, mTOr, mTNot, mT, mV, mIf, mOp, mChain, mCall, mFn, mFCall, mFr, mTup, mLst, aCons, aNil, mVal, mOwn, mC, mNeg, mNext, mRet, mDrop, bind_ok, bind_err, res_ok, res_err, Res.fin, Out.ne, gNm, gTp, gsCons, gsNil, mIt, mRng1, mSl, oNone, oSome, kInt, add_int, len_tup, len_lst, tuple_lst, tuple_tup, mMk, mIn, mFlds, putD, mChk, mDo, mRaise, mApp, mAppPop, mSetIx, mLRg, mRg1, mTRg, mRg2, mPar2, sVal, sOwn, sNil, D.isFn, sizeLine_eq, eq_int, ne_int, wipeE, ka]), seq_next hw]
    rfl
  show (b__law_divisor [.val (.int a), .val (.int b)] pen).fin = _
  rw [e1]
  rfl
/-! #### lowest terms -/
def byOf (t b : Int) : Int := if 0 < b then (Int.gcd t b : Nat) else -(Int.gcd t b : Nat)
def lowD (t b : Int) : D := if b = byOf t b then .int (t.fdiv (byOf t b)) else .tup [.int (t.fdiv (byOf t b)), .int (b.fdiv (byOf t b))]
theorem div_g (a : Int) {j : Int} (h : gDiv j = true) : kDivI a j = some (.int (a.fdiv j)) := if_pos h
theorem gcd_pos {t b : Int} (h : b ≠ 0) : 0 < Int.gcd t b := Int.gcd_pos_of_ne_zero_right _ h
theorem low_ret {t b x : Int} (hx : x = byOf t b) (hd : gDiv (byOf t b) = true) (q : Pen) : (mRet (mIf (mT (mOp kEq (mVal 1) (mVal 2))) (mOp kDiv (mVal 0) (mVal 2)) (mTup (aCons (mOp kDiv (mVal 0) (mVal 2)) (aCons (mOp kDiv (mVal 1) (mVal 2)) aNil))))) [.val (.int t), .val (.int b), .val (.int x)] q = .ret (lowD t b) q := by
  rw [← hx] at hd
  have k1 := div_g t hd
  have k2 := div_g b hd
  unfold lowD
  rw [← hx]
  by_cases e : b = x
  · rw [if_pos e]
    subst e
    simp -implicitDefEqProofs [mDef, env0, env1, mDefI, mSeq, mSet, mSetO, mIfS, mTAnd, mTOr, mTNot, mT, mV, mIf, mOp, mChain, mCall, mFn, mFCall, mFr, mTup, mLst, aCons, aNil, mVal, mOwn, mC, mNeg, mNext, mRet, mDrop, bind_ok, bind_err, res_ok, res_err, Res.fin, Out.ne, gNm, gTp, gsCons, gsNil, mIt, mRng1, mSl, oNone, oSome, kInt, add_int, len_tup, len_lst, tuple_lst, tuple_tup, mMk, mIn, mFlds, putD, mChk, mDo, mRaise, mApp, mAppPop, mSetIx, mLRg, mRg1, mTRg, mRg2, mPar2, sVal, sOwn, sNil, D.isFn, sizeLine_eq, eq_int, ne_int, wipeE, k1]
  · rw [if_neg e]
    simp -implicitDefEqProofs [mDef, env0, env1, mDefI, mSeq, mSet, mSetO, mIfS, mTAnd, mTOr, mTNot, mT, mV, mIf, mOp, mChain, mCall, mFn, mFCall, mFr, mTup, mLst, aCons, aNil, mVal, mOwn, mC, mNeg, mNext, mRet, mDrop, bind_ok, bind_err, res_ok, res_err, Res.fin, Out.ne, gNm, gTp, gsCons, gsNil, mIt, mRng1, mSl, oNone, oSome, kInt, add_int, len_tup, len_lst, tuple_lst, tuple_tup, mMk, mIn, mFlds, putD, mChk, mDo, mRaise, mApp, mAppPop, mSetIx, mLRg, mRg1, mTRg, mRg2, mPar2, sVal, sOwn, sNil, D.isFn, sizeLine_eq, eq_int, ne_int, wipeE, k1, k2, e]
theorem m_low {t b : Int} (hb : b ≠ 0) (hd : gDiv (byOf t b) = true) (q : Pen) : m__law_low [.int t, .int b] q = .ok (lowD t b) q := by
  have k := m_divisor t b q
  have e1 : b__law_low [.val (.int t), .val (.int b), .un] q = .ret (lowD t b) q := by
    unfold b__law_low
    rw [seq_next (e2 := [.val (.int t), .val (.int b), .val (.int (Int.gcd t b))]) (q2 := q) (by simp -implicitDefEqProofs [mDef, env0, env1, mDefI, mSeq, mSet, mSetO, mIfS, mTAnd, mTOr, mTNot, mT, mV, mIf, mOp, mChain, mCall, mFn, mFCall, mFr, mTup, mLst, aCons, aNil, mVal, mOwn, mC, mNeg, mNext, mRet, mDrop, bind_ok, bind_err, res_ok, res_err, Res.fin, Out.ne, gNm, gTp, gsCons, gsNil, mIt, mRng1, mSl, oNone, oSome, kInt, add_int, len_tup, len_lst, tuple_lst, tuple_tup, mMk, mIn, mFlds, putD, mChk, mDo, mRaise, mApp, mAppPop, mSetIx, mLRg, mRg1, mTRg, mRg2, mPar2, sVal, sOwn, sNil, D.isFn, sizeLine_eq, eq_int, ne_int, wipeE, k])]
    rw [seq_next (e2 := [.val (.int t), .val (.int b), .val (.int (byOf t b))]) (q2 := q) (by
      unfold byOf
      by_cases c : 0 < b
      · have c2 : ¬ b < 0 := by omega
        simp -implicitDefEqProofs [mDef, env0, env1, mDefI, mSeq, mSet, mSetO, mIfS, mTAnd, mTOr, mTNot, mT, mV, mIf, mOp, mChain, mCall, mFn, mFCall, mFr, mTup, mLst, aCons, aNil, mVal, mOwn, mC, mNeg, mNext, mRet, mDrop, bind_ok, bind_err, res_ok, res_err, Res.fin, Out.ne, gNm, gTp, gsCons, gsNil, mIt, mRng1, mSl, oNone, oSome, kInt, add_int, len_tup, len_lst, tuple_lst, tuple_tup, mMk, mIn, mFlds, putD, mChk, mDo, mRaise, mApp, mAppPop, mSetIx, mLRg, mRg1, mTRg, mRg2, mPar2, sVal, sOwn, sNil, D.isFn, sizeLine_eq, eq_int, ne_int, wipeE, c, c2]
      · have c2 : b < 0 := by omega
        simp -implicitDefEqProofs [mDef, env0, env1, mDefI, mSeq, mSet, mSetO, mIfS, mTAnd, mTOr, mTNot, mT, mV, mIf, mOp, mChain, mCall, mFn, mFCall, mFr, mTup, mLst, aCons, aNil, mVal, mOwn, mC, mNeg, mNext, mRet, mDrop, bind_ok, bind_err, res_ok, res_err, Res.fin, Out.ne, gNm, gTp, gsCons, gsNil, mIt, mRng1, mSl, oNone, oSome, kInt, add_int, len_tup, len_lst, tuple_lst, tuple_tup, mMk, mIn, mFlds, putD, mChk, mDo, mRaise, mApp, mAppPop, mSetIx, mLRg, mRg1, mTRg, mRg2, mPar2, sVal, sOwn, sNil, D.isFn, sizeLine_eq, eq_int, ne_int, wipeE, c, c2])]
    exact low_ret rfl hd q
  show (b__law_low [.val (.int t), .val (.int b), .un] q).fin = _
  rw [e1]
  rfl
/-- a number: an int, or a pair in lowest terms -/
inductive Num : D → Int → Int → Prop where
  | int (t : Int) : Num (.int t) t 1
  | fr {t b : Int} (h : 1 < b) (g : Int.gcd t b = 1) : Num (.tup [.int t, .int b]) t b
theorem Num.pos {d : D} {t b : Int} (h : Num d t b) : 0 < b := by cases h <;> omega
theorem fdiv_exact {x k : Int} (y : Int) (h : k ≠ 0) (e : x = k * y) : x.fdiv k = y := by
  rw [e, Int.mul_fdiv_cancel_left _ h]
theorem low_num {t b : Int} (hb : b ≠ 0) : ∃ t' b', Num (lowD t b) t' b' ∧ t = byOf t b * t' ∧ b = byOf t b * b' := by
  have g0 := gcd_pos (t := t) hb
  have hx : byOf t b ≠ 0 := by unfold byOf; split <;> omega
  have d1 : ((Int.gcd t b : Nat) : Int) ∣ t := Int.gcd_dvd_left ..
  have d2 : ((Int.gcd t b : Nat) : Int) ∣ b := Int.gcd_dvd_right ..
  obtain ⟨u, hu⟩ := d1
  obtain ⟨v, hv⟩ := d2
  have cop : Int.gcd u v = 1 := by
    have e := Int.gcd_mul_left (Int.gcd t b : Nat) u v
    rw [← hu, ← hv, Int.natAbs_natCast] at e
    have e2 : Int.gcd t b * 1 = Int.gcd t b * Int.gcd u v := by rw [Nat.mul_one]; exact e
    exact (Nat.eq_of_mul_eq_mul_left g0 e2).symm
  by_cases c : 0 < b
  · have hby : byOf t b = (Int.gcd t b : Nat) := if_pos c
    have vpos : 0 < v := by
      rcases Int.lt_trichotomy v 0 with h | h | h
      · have := Int.mul_neg_of_pos_of_neg (a := ((Int.gcd t b : Nat) : Int)) (by omega) h
        omega
      · rw [h] at hv; simp at hv; omega
      · exact h
    refine ⟨u, v, ?_, by rw [hby]; exact hu, by rw [hby]; exact hv⟩
    have f1 : t.fdiv (byOf t b) = u := fdiv_exact u hx (by rw [hby]; exact hu)
    have f2 : b.fdiv (byOf t b) = v := fdiv_exact v hx (by rw [hby]; exact hv)
    unfold lowD
    rw [f1, f2]
    by_cases e : b = byOf t b
    · rw [if_pos e]
      have : v = 1 := by
        have e3 : ((Int.gcd t b : Nat) : Int) * v = (Int.gcd t b : Nat) * 1 := by
          rw [Int.mul_one, ← hv]
          exact e.trans hby
        exact Int.eq_of_mul_eq_mul_left (by omega) e3
      rw [this]
      exact .int u
    · rw [if_neg e]
      refine .fr ?_ cop
      by_cases h1 : v = 1
      · rw [h1, Int.mul_one] at hv
        exact absurd (by rw [hby]; exact hv) e
      · omega
  · have hby : byOf t b = -(Int.gcd t b : Nat) := if_neg c
    have vneg : v < 0 := by
      rcases Int.lt_trichotomy v 0 with h | h | h
      · exact h
      · rw [h] at hv; simp at hv; omega
      · have := Int.mul_pos (a := ((Int.gcd t b : Nat) : Int)) (by omega) h
        omega
    have hu2 : t = byOf t b * (-u) := by rw [hby, Int.neg_mul_neg]; exact hu
    have hv2 : b = byOf t b * (-v) := by rw [hby, Int.neg_mul_neg]; exact hv
    refine ⟨-u, -v, ?_, hu2, hv2⟩
    have f1 : t.fdiv (byOf t b) = -u := fdiv_exact (-u) hx hu2
    have f2 : b.fdiv (byOf t b) = -v := fdiv_exact (-v) hx hv2
    unfold lowD
    rw [f1, f2]
    by_cases e : b = byOf t b
    · rw [if_pos e]
      have : -v = 1 := by
        have e3 : byOf t b * (-v) = byOf t b * 1 := by rw [Int.mul_one, ← hv2]; exact e
        exact Int.eq_of_mul_eq_mul_left hx e3
      rw [this]
      exact .int (-u)
    · rw [if_neg e]
      refine .fr ?_ (by rw [Int.gcd_neg, Int.neg_gcd]; exact cop)
      by_cases h1 : -v = 1
      · rw [h1, Int.mul_one] at hv2
        exact absurd hv2 e
      · omega
theorem rat_eq (r : Rat) : r = (r.num : Rat) / (r.den : Rat) := by
  have h := Rat.num_divInt_den r
  rw [Rat.divInt_eq_div] at h
  exact h.symm
theorem den_ne (r : Rat) : (r.den : Rat) ≠ 0 := by
  have := r.den_nz
  intro h
  exact this (Rat.natCast_eq_zero_iff.mp h)
theorem ic_ne {b : Int} (h : b ≠ 0) : (b : Rat) ≠ 0 := fun e => h (by
  have e2 : (b : Rat) = ((0 : Int) : Rat) := e
  exact Rat.intCast_inj.mp e2)
theorem rat_mk {t b : Int} (hb : 0 < b) (g : Int.gcd t b = 1) : ((t : Rat) / (b : Rat)).num = t ∧ (((t : Rat) / (b : Rat)).den : Int) = b := by
  have e : (t : Rat) / (b : Rat) = ⟨t, b.toNat, by omega, by
    show Nat.gcd t.natAbs b.toNat = 1
    have : b.toNat = b.natAbs := by omega
    rw [this]; exact g⟩ := by
    rw [Rat.mk_eq_divInt, Rat.divInt_eq_div]
    congr 1
    rw [show ((b.toNat : Nat) : Int) = b by omega]
  rw [e]
  exact ⟨rfl, by show ((b.toNat : Nat) : Int) = b; omega⟩
/-- a ratio's one form -/
def nD (r : Rat) : D := if r.den = 1 then .int r.num else .tup [.int r.num, .int r.den]
theorem num_nD (r : Rat) : Num (nD r) r.num r.den := by
  unfold nD
  by_cases h : r.den = 1
  · rw [if_pos h, h]
    exact .int _
  · rw [if_neg h]
    have := r.den_nz
    exact .fr (by omega) r.reduced
theorem nD_num {d : D} {t b : Int} (h : Num d t b) : d = nD ((t : Rat) / (b : Rat)) := by
  unfold nD
  cases h with
  | int t =>
    obtain ⟨h1, h2⟩ := rat_mk (t := t) (b := 1) (by decide) (by simp)
    rw [h1, if_pos (by omega)]
  | fr hb g =>
    obtain ⟨h1, h2⟩ := rat_mk (t := t) (b := b) (by omega) g
    rw [h1, h2, if_neg (by omega)]
theorem nD_int (i : Int) : nD (i : Rat) = .int i := by
  unfold nD
  rw [Rat.den_intCast, if_pos rfl, Rat.num_intCast]
def numT : D → Int
  | .int t => t
  | .tup [.int t, _] => t
  | _ => 0
def denT : D → Int
  | .int _ => 1
  | .tup [_, .int b] => b
  | _ => 0
theorem Num.get {d : D} {t b : Int} (h : Num d t b) : numT d = t ∧ denT d = b := by cases h <;> exact ⟨rfl, rfl⟩
theorem nD_inj {r s : Rat} (h : nD r = nD s) : r = s := by
  obtain ⟨h1, h2⟩ := (num_nD r).get
  obtain ⟨h3, h4⟩ := (num_nD s).get
  rw [h] at h1 h2
  rw [rat_eq r, rat_eq s, ← h1.symm.trans h3, show r.den = s.den by omega]
theorem low_nD {t b : Int} (hb : b ≠ 0) : lowD t b = nD ((t : Rat) / (b : Rat)) := by
  obtain ⟨t', b', n, e1, e2⟩ := low_num (t := t) hb
  rw [nD_num n]
  congr 1
  have hx : byOf t b ≠ 0 := fun h => by rw [h, Int.zero_mul] at e2; exact hb e2
  have hp := n.pos
  have k1 := ic_ne hx
  have k2 := ic_ne (b := b') (by omega)
  clear n
  generalize byOf t b = g at *
  rw [e1, e2]
  rw [Rat.intCast_mul, Rat.intCast_mul]
  generalize (g : Rat) = x at *
  generalize (t' : Rat) = y at *
  generalize (b' : Rat) = z at *
  grind
/-! #### sizes -/
def Bq (k : Nat) (r : Rat) : Prop := r.num.natAbs < 2 ^ k ∧ r.den < 2 ^ k
theorem Bq.mono {k l : Nat} {r : Rat} (h : Bq k r) (hl : k ≤ l) : Bq l r := ⟨Nat.lt_of_lt_of_le h.1 (Nat.pow_le_pow_right (by decide) hl), Nat.lt_of_lt_of_le h.2 (Nat.pow_le_pow_right (by decide) hl)⟩
theorem frac_cross {a b c d : Rat} (hb : b ≠ 0) (hd : d ≠ 0) (h : a / b = c / d) : a * d = c * b := by grind
theorem bq_frac {k : Nat} {r : Rat} {n d : Int} (hd : 0 < d) (h1 : n.natAbs < 2 ^ k) (h2 : d.natAbs < 2 ^ k) (e : r = (n : Rat) / (d : Rat)) : Bq k r := by
  have hx : n * r.den = r.num * d := by
    have h3 := rat_eq r
    have d1 := den_ne r
    have d2 := ic_ne (b := d) (by omega)
    have : ((n * r.den : Int) : Rat) = ((r.num * d : Int) : Rat) := by
      rw [Rat.intCast_mul, Rat.intCast_mul, Rat.intCast_natCast]
      exact frac_cross d2 d1 (e.symm.trans h3)
    exact Rat.intCast_inj.mp this
  have hnat : n.natAbs * r.den = r.num.natAbs * d.natAbs := by
    have := congrArg Int.natAbs hx
    rwa [Int.natAbs_mul, Int.natAbs_mul, Int.natAbs_natCast] at this
  have cop : Nat.Coprime r.den r.num.natAbs := r.reduced.symm
  have d1 : r.den ∣ d.natAbs := Nat.Coprime.dvd_of_dvd_mul_left cop ⟨n.natAbs, by rw [← hnat, Nat.mul_comm]⟩
  have d2 : r.num.natAbs ∣ n.natAbs := Nat.Coprime.dvd_of_dvd_mul_right cop.symm ⟨d.natAbs, hnat⟩
  have dp := r.den_pos
  refine ⟨?_, Nat.lt_of_le_of_lt (Nat.le_of_dvd (by omega) d1) h2⟩
  by_cases h0 : n.natAbs = 0
  · have : r.num.natAbs = 0 := by
      rcases Nat.mul_eq_zero.mp (show r.num.natAbs * d.natAbs = 0 by rw [← hnat, h0, Nat.zero_mul]) with h | h
      · exact h
      · omega
    rw [this]
    exact Nat.pos_of_ne_zero (by have := Nat.pow_pos (n := k) (show 0 < 2 by decide); omega)
  · exact Nat.lt_of_le_of_lt (Nat.le_of_dvd (by omega) d2) h1
theorem bq_int {k : Nat} {i : Int} (h : i.natAbs < 2 ^ k) (hk : 1 ≤ k) : Bq k (i : Rat) := by
  refine ⟨by rw [Rat.num_intCast]; exact h, ?_⟩
  rw [Rat.den_intCast]
  exact Nat.lt_of_lt_of_le (show 1 < 2 ^ 1 by decide) (Nat.pow_le_pow_right (by decide) hk)
theorem pow_mul_lt {a b k l : Nat} (h1 : a < 2 ^ k) (h2 : b < 2 ^ l) : a * b < 2 ^ (k + l) := by
  rw [Nat.pow_add]
  exact Nat.mul_lt_mul'' h1 h2
theorem mul_big {a b : Int} (h1 : a.natAbs < 2 ^ 5000) (h2 : b.natAbs < 2 ^ 5000) : kMul (.int a) (.int b) = some (.int (a * b)) := by
  show kMulI a b = _
  unfold kMulI gMul
  rw [if_pos]
  rw [Bool.or_eq_true, Bool.or_eq_true, decide_eq_true_eq, decide_eq_true_eq, decide_eq_true_eq]
  refine .inr (.inr ?_)
  have lg : ∀ n : Nat, n < 2 ^ 5000 → n.log2 ≤ 5000 := fun n h => by
    by_cases h0 : n = 0
    · rw [h0]; decide
    · exact Nat.le_of_lt ((Nat.log2_lt h0).mpr h)
  have := lg _ h1
  have := lg _ h2
  omega
theorem gdiv_pos {x y : Int} (hy : 0 < y) (h : y.natAbs < 2 ^ 8000) : gDiv (byOf x y) = true := by
  have g0 := gcd_pos (t := x) (b := y) (by omega)
  have g1 : Int.gcd x y ≤ y.natAbs := Nat.le_of_dvd (by omega) (Int.gcd_dvd_natAbs_right x y)
  have e : byOf x y = (Int.gcd x y : Nat) := if_pos hy
  unfold gDiv
  rw [e, Bool.and_eq_true, Bool.or_eq_true, Bool.and_eq_true, decide_eq_true_eq, decide_eq_true_eq, decide_eq_true_eq, decide_eq_true_eq]
  refine ⟨by omega, .inr ⟨by omega, ?_⟩⟩
  rw [Int.natAbs_natCast]
  have : Nat.log2 (Int.gcd x y) < 8000 := (Nat.log2_lt (by omega)).mpr (Nat.lt_of_le_of_lt g1 h)
  omega
theorem den_pos' (r : Rat) : (0 : Int) < r.den := by have := r.den_pos; omega
theorem add_eq (r s : Rat) : r + s = ((r.num * s.den + s.num * r.den : Int) : Rat) / ((r.den * s.den : Int) : Rat) := by
  have h1 := rat_eq r
  have h2 := rat_eq s
  have d1 := den_ne r
  have d2 := den_ne s
  rw [Rat.intCast_add, Rat.intCast_mul, Rat.intCast_mul, Rat.intCast_mul, Rat.intCast_natCast, Rat.intCast_natCast]
  generalize (r.num : Rat) = a at *
  generalize (r.den : Rat) = b at *
  generalize (s.num : Rat) = c at *
  generalize (s.den : Rat) = d at *
  subst h1; subst h2
  grind
theorem mul_eq (r s : Rat) : r * s = ((r.num * s.num : Int) : Rat) / ((r.den * s.den : Int) : Rat) := by
  have h1 := rat_eq r
  have h2 := rat_eq s
  have d1 := den_ne r
  have d2 := den_ne s
  rw [Rat.intCast_mul, Rat.intCast_mul, Rat.intCast_natCast, Rat.intCast_natCast]
  generalize (r.num : Rat) = a at *
  generalize (r.den : Rat) = b at *
  generalize (s.num : Rat) = c at *
  generalize (s.den : Rat) = d at *
  subst h1; subst h2
  grind
theorem div_eq (r s : Rat) : r / s = ((r.num * s.den : Int) : Rat) / ((r.den * s.num : Int) : Rat) := by
  have h1 := rat_eq r
  have h2 := rat_eq s
  have d1 := den_ne r
  have d2 := den_ne s
  rw [Rat.intCast_mul, Rat.intCast_mul, Rat.intCast_natCast, Rat.intCast_natCast]
  generalize (r.num : Rat) = a at *
  generalize (r.den : Rat) = b at *
  generalize (s.num : Rat) = c at *
  generalize (s.den : Rat) = d at *
  subst h1; subst h2
  grind
theorem bq_add {k l : Nat} {r s : Rat} (h1 : Bq k r) (h2 : Bq l s) : Bq (k + l + 1) (r + s) := by
  have p1 := den_pos' r
  have p2 := den_pos' s
  have a1 := pow_mul_lt h1.1 h2.2
  have a2 := pow_mul_lt h2.1 h1.2
  have a3 := pow_mul_lt h1.2 h2.2
  rw [Nat.add_comm l k] at a2
  have e : 2 ^ (k + l + 1) = 2 ^ (k + l) + 2 ^ (k + l) := by rw [Nat.pow_succ]; omega
  refine bq_frac (Int.mul_pos p1 p2) ?_ ?_ (add_eq r s)
  · have := Int.natAbs_add_le (r.num * s.den) (s.num * r.den)
    rw [Int.natAbs_mul, Int.natAbs_mul, Int.natAbs_natCast, Int.natAbs_natCast] at this
    omega
  · rw [Int.natAbs_mul, Int.natAbs_natCast, Int.natAbs_natCast]
    omega
theorem bq_mul {k l : Nat} {r s : Rat} (h1 : Bq k r) (h2 : Bq l s) : Bq (k + l) (r * s) := by
  refine bq_frac (Int.mul_pos (den_pos' r) (den_pos' s)) ?_ ?_ (mul_eq r s)
  · rw [Int.natAbs_mul]
    exact pow_mul_lt h1.1 h2.1
  · rw [Int.natAbs_mul, Int.natAbs_natCast, Int.natAbs_natCast]
    exact pow_mul_lt h1.2 h2.2
theorem bq_neg {k : Nat} {r : Rat} (h : Bq k r) : Bq k (-r) := ⟨by rw [Rat.neg_num, Int.natAbs_neg]; exact h.1, by rw [Rat.neg_den]; exact h.2⟩
theorem bq_sub {k l : Nat} {r s : Rat} (h1 : Bq k r) (h2 : Bq l s) : Bq (k + l + 1) (r - s) := by
  rw [Rat.sub_eq_add_neg]
  exact bq_add h1 (bq_neg h2)

theorem bs_num {d : D} {t b : Int} (h : Num d t b) : d.bs = true := by cases h <;> rfl
theorem isI_num {d : D} {t b : Int} (h : Num d t b) : (d.isI = true ∧ b = 1 ∧ d = .int t) ∨ d.isI = false := by
  cases h
  · exact .inl ⟨rfl, rfl, rfl⟩
  · exact .inr rfl
theorem isI1_num {d : D} {t b : Int} (h : Num d t b) : d.isI1 = decide (b = 1) := by
  cases h with
  | int t => rfl
  | fr hb g => exact (decide_eq_false (by omega)).symm
theorem ix0 (x : D) (r : List D) : kIx (.tup (x :: r)) (.int 0) = some x := by
  rw [ix_tup, atI_of _ (by decide) (by simp)]
  rfl
theorem ix1 (x y : D) (r : List D) : kIx (.tup (x :: y :: r)) (.int 1) = some y := by
  rw [ix_tup, atI_of _ (by decide) (by simp only [List.length_cons]; omega)]
  rfl
theorem m_lpair {d : D} {t b : Int} (h : Num d t b) (q : Pen) : m__law_pair [d] q = .ok (.tup [.int t, .int b]) q := by
  have h1 := isi_I (bs_num h)
  cases h <;> simp -implicitDefEqProofs [mDef, env0, env1, mDefI, mSeq, mSet, mSetO, mIfS, mTAnd, mTOr, mTNot, mT, mV, mIf, mOp, mChain, mCall, mFn, mFCall, mFr, mTup, mLst, aCons, aNil, mVal, mOwn, mC, mNeg, mNext, mRet, mDrop, bind_ok, bind_err, res_ok, res_err, Res.fin, Out.ne, gNm, gTp, gsCons, gsNil, mIt, mRng1, mSl, oNone, oSome, kInt, add_int, len_tup, len_lst, tuple_lst, tuple_tup, mMk, mIn, mFlds, putD, mChk, mDo, mRaise, mApp, mAppPop, mSetIx, mLRg, mRg1, mTRg, mRg2, mPar2, sVal, sOwn, sNil, D.isFn, sizeLine_eq, eq_int, ne_int, wipeE, m__law_pair, b__law_pair, h1, D.isI]
section
variable {r s : Rat}
theorem bq5 {k : Nat} (h : Bq k r) (hk : k ≤ 4000) : r.num.natAbs < 2 ^ 5000 ∧ (r.den : Int).natAbs < 2 ^ 5000 := by
  have := h.mono (show k ≤ 5000 by omega)
  exact ⟨this.1, by rw [Int.natAbs_natCast]; exact this.2⟩
theorem den_mul (h1 : Bq 4000 r) (h2 : Bq 4000 s) : (0 : Int) < r.den * s.den ∧ ((r.den : Int) * s.den).natAbs < 2 ^ 8000 := by
  refine ⟨Int.mul_pos (den_pos' r) (den_pos' s), ?_⟩
  rw [Int.natAbs_mul, Int.natAbs_natCast, Int.natAbs_natCast]
  exact pow_mul_lt h1.2 h2.2
theorem prods (h1 : Bq 4000 r) (h2 : Bq 4000 s) : kMul (.int r.num) (.int s.den) = some (.int (r.num * s.den)) ∧ kMul (.int s.num) (.int r.den) = some (.int (s.num * r.den)) ∧ kMul (.int r.den) (.int s.den) = some (.int (r.den * s.den)) ∧ kMul (.int r.num) (.int s.num) = some (.int (r.num * s.num)) ∧ kMul (.int r.den) (.int s.num) = some (.int (r.den * s.num)) := by
  obtain ⟨a1, a2⟩ := bq5 h1 (by decide)
  obtain ⟨b1, b2⟩ := bq5 h2 (by decide)
  exact ⟨mul_big a1 b2, mul_big b1 a2, mul_big a2 b2, mul_big a1 b1, mul_big a2 b1⟩
theorem m_lplusD (h1 : Bq 4000 r) (h2 : Bq 4000 s) (q : Pen) : m__law_plus [nD r, nD s] q = .ok (nD (r + s)) q := by
  obtain ⟨p1, p2, p3, p4, p5⟩ := prods h1 h2
  obtain ⟨g1, g2⟩ := den_mul h1 h2
  have hne : ((r.den : Int) * s.den) ≠ 0 := by omega
  have low := m_low (t := r.num * s.den + s.num * r.den) (b := r.den * s.den) hne (gdiv_pos g1 g2) q
  rw [add_eq r s, ← low_nD hne]
  have k1 := m_lpair (num_nD r) q
  have k2 := m_lpair (num_nD s) q
  generalize nD r = d at *
  generalize nD s = e at *
  generalize (r.den : Int) = b at *
  generalize (s.den : Int) = l at *
  generalize r.num = t at *
  generalize s.num = h at *
  clear h1 h2 g1 g2
  simp -implicitDefEqProofs [mDef, env0, env1, mDefI, mSeq, mSet, mSetO, mIfS, mTAnd, mTOr, mTNot, mT, mV, mIf, mOp, mChain, mCall, mFn, mFCall, mFr, mTup, mLst, aCons, aNil, mVal, mOwn, mC, mNeg, mNext, mRet, mDrop, bind_ok, bind_err, res_ok, res_err, Res.fin, Out.ne, gNm, gTp, gsCons, gsNil, mIt, mRng1, mSl, oNone, oSome, kInt, add_int, len_tup, len_lst, tuple_lst, tuple_tup, mMk, mIn, mFlds, putD, mChk, mDo, mRaise, mApp, mAppPop, mSetIx, mLRg, mRg1, mTRg, mRg2, mPar2, sVal, sOwn, sNil, D.isFn, sizeLine_eq, eq_int, ne_int, wipeE, m__law_plus, b__law_plus, k1, k2, ix0, ix1, p1, p2, p3, low]
end
def negD : D → D
  | .int t => .int (-t)
  | .tup [.int t, b] => .tup [.int (-t), b]
  | d => d
theorem Num.neg {d : D} {t b : Int} (h : Num d t b) : Num (negD d) (-t) b := by
  cases h with
  | int t => exact .int _
  | fr h g => exact .fr h (by rw [Int.neg_gcd]; exact g)
theorem neg_nD (r : Rat) : negD (nD r) = nD (-r) := by
  rw [nD_num (num_nD r).neg]
  congr 1
  have h := rat_eq r
  rw [Rat.intCast_neg, Rat.intCast_natCast]
  generalize (r.num : Rat) = a at *
  generalize (r.den : Rat) = b at *
  rw [h]
  grind
theorem m_loppN {d : D} {t b : Int} (h : Num d t b) (q : Pen) : m__law_opposite [d] q = .ok (negD d) q := by
  have h1 := isi_I (bs_num h)
  cases h <;> simp -implicitDefEqProofs [mDef, env0, env1, mDefI, mSeq, mSet, mSetO, mIfS, mTAnd, mTOr, mTNot, mT, mV, mIf, mOp, mChain, mCall, mFn, mFCall, mFr, mTup, mLst, aCons, aNil, mVal, mOwn, mC, mNeg, mNext, mRet, mDrop, bind_ok, bind_err, res_ok, res_err, Res.fin, Out.ne, gNm, gTp, gsCons, gsNil, mIt, mRng1, mSl, oNone, oSome, kInt, add_int, len_tup, len_lst, tuple_lst, tuple_tup, mMk, mIn, mFlds, putD, mChk, mDo, mRaise, mApp, mAppPop, mSetIx, mLRg, mRg1, mTRg, mRg2, mPar2, sVal, sOwn, sNil, D.isFn, sizeLine_eq, eq_int, ne_int, wipeE, m__law_opposite, b__law_opposite, h1, D.isI, ix0, ix1, negD]
theorem m_loppD (r : Rat) (q : Pen) : m__law_opposite [nD r] q = .ok (nD (-r)) q := by rw [m_loppN (num_nD r), neg_nD]
theorem m_lminusD {r s : Rat} (h1 : Bq 4000 r) (h2 : Bq 4000 s) (q : Pen) : m__law_minus [nD r, nD s] q = .ok (nD (r - s)) q := by
  have k1 := m_loppD s q
  have k2 := m_lplusD h1 (bq_neg h2) q
  rw [Rat.sub_eq_add_neg]
  generalize nD r = d at *
  generalize nD s = e at *
  show (b__law_minus [.val d, .val e] q).fin = _
  unfold b__law_minus
  rw [ret_of ((fn2 rfl ((fn1 rfl).trans k1)).trans k2)]
  rfl
theorem den1_int {r : Rat} (h : r.den = 1) : r = (r.num : Rat) := by
  have h2 := rat_eq r
  rw [h] at h2
  have : ((1 : Nat) : Rat) = 1 := rfl
  rw [this] at h2
  generalize (r.num : Rat) = a at *
  grind
theorem isI1_nD (r : Rat) : (nD r).isI1 = decide (r.den = 1) := by
  rw [isI1_num (num_nD r)]
  exact decide_eq_decide.mpr ⟨fun h => by omega, fun h => by omega⟩

end Lw
end Pu
end

section
set_option maxHeartbeats 8000000
namespace Pu
namespace Lw
open PySem PySem.Spec PyProof.Rows L2
theorem isi_exc {c c' : Str} {fs : List (Str × D)} (h : c ∈ exL) (h1 : c ∈ clL) (h2 : c' ∈ clL) : kIsi objL exL ask [.exc c fs, .fn c'] = some (.bl (subB c c')) := by
  show (if c ∈ exL then (ask (.inr c) (.fn c')).map D.bl else none) = _
  rw [if_pos h]
  show (if c ∈ clL ∧ c' ∈ clL then some (subB c c') else none).map D.bl = _
  rw [if_pos ⟨h1, h2⟩]
  rfl
theorem isi_ve {c : Str} {fs : List (Str × D)} (h : c ∈ exL) (h1 : c ∈ clL) : kIsi objL exL ask [.exc c fs, .ty "ValueError"] = some (.bl (isTB c "ValueError")) := by
  show (if c ∈ exL then (ask (.inr c) (.ty "ValueError")).map D.bl else none) = _
  rw [if_pos h]
  show (if c ∈ clL ∧ "ValueError" ∈ tyL then some (isTB c "ValueError") else none).map D.bl = _
  rw [if_pos ⟨h1, by decide +kernel⟩]
  rfl
theorem look_put' {f g : Str} {x : D} {r : List (Str × D)} : List.lookup f ((g, x) :: r) = if f = g then some x else List.lookup f r := by
  rw [List.lookup_cons]
  by_cases e : f = g
  · subst e; simp
  · rw [if_neg e, show (f == g) = false from beq_false_of_ne e]
theorem in_BadNumber : ("BadNumber" : Str) ∈ exL ∧ ("BadNumber" : Str) ∈ clL := by decide +kernel
theorem in_BadRow : ("BadRow" : Str) ∈ exL ∧ ("BadRow" : Str) ∈ clL := by decide +kernel
theorem in_BadTable : ("BadTable" : Str) ∈ exL ∧ ("BadTable" : Str) ∈ clL := by decide +kernel
theorem in_BadWeb : ("BadWeb" : Str) ∈ exL ∧ ("BadWeb" : Str) ∈ clL := by decide +kernel
theorem in_BadLot : ("BadLot" : Str) ∈ exL ∧ ("BadLot" : Str) ∈ clL := by decide +kernel
theorem in_BadName : ("BadName" : Str) ∈ exL ∧ ("BadName" : Str) ∈ clL := by decide +kernel
theorem in_BadText : ("BadText" : Str) ∈ exL ∧ ("BadText" : Str) ∈ clL := by decide +kernel
theorem in_NoPlace : ("NoPlace" : Str) ∈ exL ∧ ("NoPlace" : Str) ∈ clL := by decide +kernel
theorem in_NoName : ("NoName" : Str) ∈ exL ∧ ("NoName" : Str) ∈ clL := by decide +kernel
theorem in_TakenName : ("TakenName" : Str) ∈ exL ∧ ("TakenName" : Str) ∈ clL := by decide +kernel
theorem in_Unlike : ("Unlike" : Str) ∈ exL ∧ ("Unlike" : Str) ∈ clL := by decide +kernel
theorem in_NotThere : ("NotThere" : Str) ∈ exL ∧ ("NotThere" : Str) ∈ clL := by decide +kernel
theorem in_TooMany : ("TooMany" : Str) ∈ exL ∧ ("TooMany" : Str) ∈ clL := by decide +kernel
theorem in_NotKept : ("NotKept" : Str) ∈ exL ∧ ("NotKept" : Str) ∈ clL := by decide +kernel
theorem in_NothingToUndo : ("NothingToUndo" : Str) ∈ exL ∧ ("NothingToUndo" : Str) ∈ clL := by decide +kernel
theorem in_NothingToRedo : ("NothingToRedo" : Str) ∈ exL ∧ ("NothingToRedo" : Str) ∈ clL := by decide +kernel
theorem i_BadNumber_BadNumber (fs : List (Str × D)) : kIsi objL exL ask [.exc "BadNumber" fs, .fn "BadNumber"] = some (.bl true) := (isi_exc in_BadNumber.1 in_BadNumber.2 in_BadNumber.2).trans (by rw [show subB "BadNumber" "BadNumber" = true by decide +kernel])
theorem i_BadNumber_BadRow (fs : List (Str × D)) : kIsi objL exL ask [.exc "BadNumber" fs, .fn "BadRow"] = some (.bl false) := (isi_exc in_BadNumber.1 in_BadNumber.2 in_BadRow.2).trans (by rw [show subB "BadNumber" "BadRow" = false by decide +kernel])
theorem i_BadNumber_BadTable (fs : List (Str × D)) : kIsi objL exL ask [.exc "BadNumber" fs, .fn "BadTable"] = some (.bl false) := (isi_exc in_BadNumber.1 in_BadNumber.2 in_BadTable.2).trans (by rw [show subB "BadNumber" "BadTable" = false by decide +kernel])
theorem i_BadNumber_BadWeb (fs : List (Str × D)) : kIsi objL exL ask [.exc "BadNumber" fs, .fn "BadWeb"] = some (.bl false) := (isi_exc in_BadNumber.1 in_BadNumber.2 in_BadWeb.2).trans (by rw [show subB "BadNumber" "BadWeb" = false by decide +kernel])
theorem i_BadNumber_BadLot (fs : List (Str × D)) : kIsi objL exL ask [.exc "BadNumber" fs, .fn "BadLot"] = some (.bl false) := (isi_exc in_BadNumber.1 in_BadNumber.2 in_BadLot.2).trans (by rw [show subB "BadNumber" "BadLot" = false by decide +kernel])
theorem i_BadNumber_BadName (fs : List (Str × D)) : kIsi objL exL ask [.exc "BadNumber" fs, .fn "BadName"] = some (.bl false) := (isi_exc in_BadNumber.1 in_BadNumber.2 in_BadName.2).trans (by rw [show subB "BadNumber" "BadName" = false by decide +kernel])
theorem i_BadNumber_BadText (fs : List (Str × D)) : kIsi objL exL ask [.exc "BadNumber" fs, .fn "BadText"] = some (.bl false) := (isi_exc in_BadNumber.1 in_BadNumber.2 in_BadText.2).trans (by rw [show subB "BadNumber" "BadText" = false by decide +kernel])
theorem i_BadNumber_NoPlace (fs : List (Str × D)) : kIsi objL exL ask [.exc "BadNumber" fs, .fn "NoPlace"] = some (.bl false) := (isi_exc in_BadNumber.1 in_BadNumber.2 in_NoPlace.2).trans (by rw [show subB "BadNumber" "NoPlace" = false by decide +kernel])
theorem i_BadNumber_NoName (fs : List (Str × D)) : kIsi objL exL ask [.exc "BadNumber" fs, .fn "NoName"] = some (.bl false) := (isi_exc in_BadNumber.1 in_BadNumber.2 in_NoName.2).trans (by rw [show subB "BadNumber" "NoName" = false by decide +kernel])
theorem i_BadNumber_TakenName (fs : List (Str × D)) : kIsi objL exL ask [.exc "BadNumber" fs, .fn "TakenName"] = some (.bl false) := (isi_exc in_BadNumber.1 in_BadNumber.2 in_TakenName.2).trans (by rw [show subB "BadNumber" "TakenName" = false by decide +kernel])
theorem i_BadNumber_Unlike (fs : List (Str × D)) : kIsi objL exL ask [.exc "BadNumber" fs, .fn "Unlike"] = some (.bl false) := (isi_exc in_BadNumber.1 in_BadNumber.2 in_Unlike.2).trans (by rw [show subB "BadNumber" "Unlike" = false by decide +kernel])
theorem i_BadNumber_NotThere (fs : List (Str × D)) : kIsi objL exL ask [.exc "BadNumber" fs, .fn "NotThere"] = some (.bl false) := (isi_exc in_BadNumber.1 in_BadNumber.2 in_NotThere.2).trans (by rw [show subB "BadNumber" "NotThere" = false by decide +kernel])
theorem i_BadNumber_TooMany (fs : List (Str × D)) : kIsi objL exL ask [.exc "BadNumber" fs, .fn "TooMany"] = some (.bl false) := (isi_exc in_BadNumber.1 in_BadNumber.2 in_TooMany.2).trans (by rw [show subB "BadNumber" "TooMany" = false by decide +kernel])
theorem i_BadNumber_NotKept (fs : List (Str × D)) : kIsi objL exL ask [.exc "BadNumber" fs, .fn "NotKept"] = some (.bl false) := (isi_exc in_BadNumber.1 in_BadNumber.2 in_NotKept.2).trans (by rw [show subB "BadNumber" "NotKept" = false by decide +kernel])
theorem i_BadNumber_NothingToUndo (fs : List (Str × D)) : kIsi objL exL ask [.exc "BadNumber" fs, .fn "NothingToUndo"] = some (.bl false) := (isi_exc in_BadNumber.1 in_BadNumber.2 in_NothingToUndo.2).trans (by rw [show subB "BadNumber" "NothingToUndo" = false by decide +kernel])
theorem i_BadNumber_NothingToRedo (fs : List (Str × D)) : kIsi objL exL ask [.exc "BadNumber" fs, .fn "NothingToRedo"] = some (.bl false) := (isi_exc in_BadNumber.1 in_BadNumber.2 in_NothingToRedo.2).trans (by rw [show subB "BadNumber" "NothingToRedo" = false by decide +kernel])
theorem iv_BadNumber (fs : List (Str × D)) : kIsi objL exL ask [.exc "BadNumber" fs, .ty "ValueError"] = some (.bl true) := (isi_ve in_BadNumber.1 in_BadNumber.2).trans (by rw [show isTB "BadNumber" "ValueError" = true by decide +kernel])
theorem mk_BadNumber (one two : D) (y : Str) (hr : kRepr [two] = some (.str y)) (q : Pen) : m__law_more_kinds [.exc "BadNumber" [("number", two), ("what", one)]] q = .ok (.lst []) q := by
  simp (decide := true) [m__law_more_kinds, b__law_more_kinds, mDefQ, mDef, env0, mSeq, mSetO, mLst, aNil, aCons, mIfS, mT, mCall, mVal, mC, bind_ok, res_ok, mApp, mTup, mExf, mNext, mRet, mOp, mOwn, mFn, Res.fin, Out.ne, kAdd, mFrzS, sizeLine_eq, i_BadNumber_BadNumber, i_BadNumber_BadRow, i_BadNumber_BadTable, i_BadNumber_BadWeb, i_BadNumber_BadLot, i_BadNumber_BadName, i_BadNumber_BadText, i_BadNumber_NoPlace, i_BadNumber_NoName, i_BadNumber_TakenName, i_BadNumber_Unlike, i_BadNumber_NotThere, i_BadNumber_TooMany, i_BadNumber_NotKept, i_BadNumber_NothingToUndo, i_BadNumber_NothingToRedo, in_BadNumber.1]
theorem kk_BadNumber (one two : D) (y : Str) (hr : kRepr [two] = some (.str y)) (q : Pen) : m__law_kinds [.exc "BadNumber" [("number", two), ("what", one)]] q = .ok (.lst [.tup [.str "number", one, .str y]]) q := by
  have l0 : List.lookup ("what" : Str) [("number", two), ("what", one)] = some one := by rw [look_put', if_neg (by decide), look_put', if_pos rfl]
  have l1 : List.lookup ("number" : Str) [("number", two), ("what", one)] = some two := by rw [look_put', if_pos rfl]
  have mk := mk_BadNumber one two y hr q
  simp (decide := true) [m__law_kinds, b__law_kinds, mDefQ, mDef, env0, mSeq, mSetO, mLst, aNil, aCons, mIfS, mT, mCall, mVal, mC, bind_ok, res_ok, mApp, mTup, mExf, mNext, mRet, mOp, mOwn, mFn, Res.fin, Out.ne, kAdd, mFrzS, sizeLine_eq, i_BadNumber_BadNumber, i_BadNumber_BadRow, i_BadNumber_BadTable, i_BadNumber_BadWeb, i_BadNumber_BadLot, i_BadNumber_BadName, i_BadNumber_BadText, i_BadNumber_NoPlace, i_BadNumber_NoName, i_BadNumber_TakenName, i_BadNumber_Unlike, i_BadNumber_NotThere, i_BadNumber_TooMany, i_BadNumber_NotKept, i_BadNumber_NothingToUndo, i_BadNumber_NothingToRedo, in_BadNumber.1, mk, l0, l1, hr]
theorem fault_BadNumber (one two : D) (y : Str) (hr : kRepr [two] = some (.str y)) (n0 : one.noX = true) (c0 : one.noC = true) (n1 : two.noX = true) (c1 : two.noC = true) {cb : EM} {env : Env} {q q2 : Pen} (h : cb (frzE env) q = .err ⟨"BadNumber", [("number", two), ("what", one)]⟩ q2) : mLam 3 b__law_fault cb env q = .ok (.tup [.str "number", one, .str y]) q2 := by
  have kk := kk_BadNumber one two y hr q2
  simp (decide := true) [b__law_fault, mLam, env0, mSeq, mSet, mSetO, mLst, aNil, aCons, mIfS, mIf, mTAnd, mT, mCall, mVal, mC, bind_ok, bind_err, res_ok, res_err, mTup, mNext, mRet, mOp, mFn, Res.fin, Out.ne, sizeLine_eq, gNm, eq_int, mDrop, mTry, Slot.noX, D.noX, D.noXs, D.noXf, D.noC, D.noCs, mClo, len_lst, len_tup, kIx, D.items, L2.atI, ixN, h, kk, iv_BadNumber, in_BadNumber.1, n0, c0, n1, c1]
theorem i_BadRow_BadNumber (fs : List (Str × D)) : kIsi objL exL ask [.exc "BadRow" fs, .fn "BadNumber"] = some (.bl false) := (isi_exc in_BadRow.1 in_BadRow.2 in_BadNumber.2).trans (by rw [show subB "BadRow" "BadNumber" = false by decide +kernel])
theorem i_BadRow_BadRow (fs : List (Str × D)) : kIsi objL exL ask [.exc "BadRow" fs, .fn "BadRow"] = some (.bl true) := (isi_exc in_BadRow.1 in_BadRow.2 in_BadRow.2).trans (by rw [show subB "BadRow" "BadRow" = true by decide +kernel])
theorem i_BadRow_BadTable (fs : List (Str × D)) : kIsi objL exL ask [.exc "BadRow" fs, .fn "BadTable"] = some (.bl false) := (isi_exc in_BadRow.1 in_BadRow.2 in_BadTable.2).trans (by rw [show subB "BadRow" "BadTable" = false by decide +kernel])
theorem i_BadRow_BadWeb (fs : List (Str × D)) : kIsi objL exL ask [.exc "BadRow" fs, .fn "BadWeb"] = some (.bl false) := (isi_exc in_BadRow.1 in_BadRow.2 in_BadWeb.2).trans (by rw [show subB "BadRow" "BadWeb" = false by decide +kernel])
theorem i_BadRow_BadLot (fs : List (Str × D)) : kIsi objL exL ask [.exc "BadRow" fs, .fn "BadLot"] = some (.bl false) := (isi_exc in_BadRow.1 in_BadRow.2 in_BadLot.2).trans (by rw [show subB "BadRow" "BadLot" = false by decide +kernel])
theorem i_BadRow_BadName (fs : List (Str × D)) : kIsi objL exL ask [.exc "BadRow" fs, .fn "BadName"] = some (.bl false) := (isi_exc in_BadRow.1 in_BadRow.2 in_BadName.2).trans (by rw [show subB "BadRow" "BadName" = false by decide +kernel])
theorem i_BadRow_BadText (fs : List (Str × D)) : kIsi objL exL ask [.exc "BadRow" fs, .fn "BadText"] = some (.bl false) := (isi_exc in_BadRow.1 in_BadRow.2 in_BadText.2).trans (by rw [show subB "BadRow" "BadText" = false by decide +kernel])
theorem i_BadRow_NoPlace (fs : List (Str × D)) : kIsi objL exL ask [.exc "BadRow" fs, .fn "NoPlace"] = some (.bl false) := (isi_exc in_BadRow.1 in_BadRow.2 in_NoPlace.2).trans (by rw [show subB "BadRow" "NoPlace" = false by decide +kernel])
theorem i_BadRow_NoName (fs : List (Str × D)) : kIsi objL exL ask [.exc "BadRow" fs, .fn "NoName"] = some (.bl false) := (isi_exc in_BadRow.1 in_BadRow.2 in_NoName.2).trans (by rw [show subB "BadRow" "NoName" = false by decide +kernel])
theorem i_BadRow_TakenName (fs : List (Str × D)) : kIsi objL exL ask [.exc "BadRow" fs, .fn "TakenName"] = some (.bl false) := (isi_exc in_BadRow.1 in_BadRow.2 in_TakenName.2).trans (by rw [show subB "BadRow" "TakenName" = false by decide +kernel])
theorem i_BadRow_Unlike (fs : List (Str × D)) : kIsi objL exL ask [.exc "BadRow" fs, .fn "Unlike"] = some (.bl false) := (isi_exc in_BadRow.1 in_BadRow.2 in_Unlike.2).trans (by rw [show subB "BadRow" "Unlike" = false by decide +kernel])
theorem i_BadRow_NotThere (fs : List (Str × D)) : kIsi objL exL ask [.exc "BadRow" fs, .fn "NotThere"] = some (.bl false) := (isi_exc in_BadRow.1 in_BadRow.2 in_NotThere.2).trans (by rw [show subB "BadRow" "NotThere" = false by decide +kernel])
theorem i_BadRow_TooMany (fs : List (Str × D)) : kIsi objL exL ask [.exc "BadRow" fs, .fn "TooMany"] = some (.bl false) := (isi_exc in_BadRow.1 in_BadRow.2 in_TooMany.2).trans (by rw [show subB "BadRow" "TooMany" = false by decide +kernel])
theorem i_BadRow_NotKept (fs : List (Str × D)) : kIsi objL exL ask [.exc "BadRow" fs, .fn "NotKept"] = some (.bl false) := (isi_exc in_BadRow.1 in_BadRow.2 in_NotKept.2).trans (by rw [show subB "BadRow" "NotKept" = false by decide +kernel])
theorem i_BadRow_NothingToUndo (fs : List (Str × D)) : kIsi objL exL ask [.exc "BadRow" fs, .fn "NothingToUndo"] = some (.bl false) := (isi_exc in_BadRow.1 in_BadRow.2 in_NothingToUndo.2).trans (by rw [show subB "BadRow" "NothingToUndo" = false by decide +kernel])
theorem i_BadRow_NothingToRedo (fs : List (Str × D)) : kIsi objL exL ask [.exc "BadRow" fs, .fn "NothingToRedo"] = some (.bl false) := (isi_exc in_BadRow.1 in_BadRow.2 in_NothingToRedo.2).trans (by rw [show subB "BadRow" "NothingToRedo" = false by decide +kernel])
theorem iv_BadRow (fs : List (Str × D)) : kIsi objL exL ask [.exc "BadRow" fs, .ty "ValueError"] = some (.bl true) := (isi_ve in_BadRow.1 in_BadRow.2).trans (by rw [show isTB "BadRow" "ValueError" = true by decide +kernel])
theorem mk_BadRow (one two : D) (y : Str) (hr : kRepr [two] = some (.str y)) (q : Pen) : m__law_more_kinds [.exc "BadRow" [("row", two), ("what", one)]] q = .ok (.lst []) q := by
  simp (decide := true) [m__law_more_kinds, b__law_more_kinds, mDefQ, mDef, env0, mSeq, mSetO, mLst, aNil, aCons, mIfS, mT, mCall, mVal, mC, bind_ok, res_ok, mApp, mTup, mExf, mNext, mRet, mOp, mOwn, mFn, Res.fin, Out.ne, kAdd, mFrzS, sizeLine_eq, i_BadRow_BadNumber, i_BadRow_BadRow, i_BadRow_BadTable, i_BadRow_BadWeb, i_BadRow_BadLot, i_BadRow_BadName, i_BadRow_BadText, i_BadRow_NoPlace, i_BadRow_NoName, i_BadRow_TakenName, i_BadRow_Unlike, i_BadRow_NotThere, i_BadRow_TooMany, i_BadRow_NotKept, i_BadRow_NothingToUndo, i_BadRow_NothingToRedo, in_BadRow.1]
theorem kk_BadRow (one two : D) (y : Str) (hr : kRepr [two] = some (.str y)) (q : Pen) : m__law_kinds [.exc "BadRow" [("row", two), ("what", one)]] q = .ok (.lst [.tup [.str "row", one, .str y]]) q := by
  have l0 : List.lookup ("what" : Str) [("row", two), ("what", one)] = some one := by rw [look_put', if_neg (by decide), look_put', if_pos rfl]
  have l1 : List.lookup ("row" : Str) [("row", two), ("what", one)] = some two := by rw [look_put', if_pos rfl]
  have mk := mk_BadRow one two y hr q
  simp (decide := true) [m__law_kinds, b__law_kinds, mDefQ, mDef, env0, mSeq, mSetO, mLst, aNil, aCons, mIfS, mT, mCall, mVal, mC, bind_ok, res_ok, mApp, mTup, mExf, mNext, mRet, mOp, mOwn, mFn, Res.fin, Out.ne, kAdd, mFrzS, sizeLine_eq, i_BadRow_BadNumber, i_BadRow_BadRow, i_BadRow_BadTable, i_BadRow_BadWeb, i_BadRow_BadLot, i_BadRow_BadName, i_BadRow_BadText, i_BadRow_NoPlace, i_BadRow_NoName, i_BadRow_TakenName, i_BadRow_Unlike, i_BadRow_NotThere, i_BadRow_TooMany, i_BadRow_NotKept, i_BadRow_NothingToUndo, i_BadRow_NothingToRedo, in_BadRow.1, mk, l0, l1, hr]
theorem fault_BadRow (one two : D) (y : Str) (hr : kRepr [two] = some (.str y)) (n0 : one.noX = true) (c0 : one.noC = true) (n1 : two.noX = true) (c1 : two.noC = true) {cb : EM} {env : Env} {q q2 : Pen} (h : cb (frzE env) q = .err ⟨"BadRow", [("row", two), ("what", one)]⟩ q2) : mLam 3 b__law_fault cb env q = .ok (.tup [.str "row", one, .str y]) q2 := by
  have kk := kk_BadRow one two y hr q2
  simp (decide := true) [b__law_fault, mLam, env0, mSeq, mSet, mSetO, mLst, aNil, aCons, mIfS, mIf, mTAnd, mT, mCall, mVal, mC, bind_ok, bind_err, res_ok, res_err, mTup, mNext, mRet, mOp, mFn, Res.fin, Out.ne, sizeLine_eq, gNm, eq_int, mDrop, mTry, Slot.noX, D.noX, D.noXs, D.noXf, D.noC, D.noCs, mClo, len_lst, len_tup, kIx, D.items, L2.atI, ixN, h, kk, iv_BadRow, in_BadRow.1, n0, c0, n1, c1]
theorem i_TooMany_BadNumber (fs : List (Str × D)) : kIsi objL exL ask [.exc "TooMany" fs, .fn "BadNumber"] = some (.bl false) := (isi_exc in_TooMany.1 in_TooMany.2 in_BadNumber.2).trans (by rw [show subB "TooMany" "BadNumber" = false by decide +kernel])
theorem i_TooMany_BadRow (fs : List (Str × D)) : kIsi objL exL ask [.exc "TooMany" fs, .fn "BadRow"] = some (.bl false) := (isi_exc in_TooMany.1 in_TooMany.2 in_BadRow.2).trans (by rw [show subB "TooMany" "BadRow" = false by decide +kernel])
theorem i_TooMany_BadTable (fs : List (Str × D)) : kIsi objL exL ask [.exc "TooMany" fs, .fn "BadTable"] = some (.bl false) := (isi_exc in_TooMany.1 in_TooMany.2 in_BadTable.2).trans (by rw [show subB "TooMany" "BadTable" = false by decide +kernel])
theorem i_TooMany_BadWeb (fs : List (Str × D)) : kIsi objL exL ask [.exc "TooMany" fs, .fn "BadWeb"] = some (.bl false) := (isi_exc in_TooMany.1 in_TooMany.2 in_BadWeb.2).trans (by rw [show subB "TooMany" "BadWeb" = false by decide +kernel])
theorem i_TooMany_BadLot (fs : List (Str × D)) : kIsi objL exL ask [.exc "TooMany" fs, .fn "BadLot"] = some (.bl false) := (isi_exc in_TooMany.1 in_TooMany.2 in_BadLot.2).trans (by rw [show subB "TooMany" "BadLot" = false by decide +kernel])
theorem i_TooMany_BadName (fs : List (Str × D)) : kIsi objL exL ask [.exc "TooMany" fs, .fn "BadName"] = some (.bl false) := (isi_exc in_TooMany.1 in_TooMany.2 in_BadName.2).trans (by rw [show subB "TooMany" "BadName" = false by decide +kernel])
theorem i_TooMany_BadText (fs : List (Str × D)) : kIsi objL exL ask [.exc "TooMany" fs, .fn "BadText"] = some (.bl false) := (isi_exc in_TooMany.1 in_TooMany.2 in_BadText.2).trans (by rw [show subB "TooMany" "BadText" = false by decide +kernel])
theorem i_TooMany_NoPlace (fs : List (Str × D)) : kIsi objL exL ask [.exc "TooMany" fs, .fn "NoPlace"] = some (.bl false) := (isi_exc in_TooMany.1 in_TooMany.2 in_NoPlace.2).trans (by rw [show subB "TooMany" "NoPlace" = false by decide +kernel])
theorem i_TooMany_NoName (fs : List (Str × D)) : kIsi objL exL ask [.exc "TooMany" fs, .fn "NoName"] = some (.bl false) := (isi_exc in_TooMany.1 in_TooMany.2 in_NoName.2).trans (by rw [show subB "TooMany" "NoName" = false by decide +kernel])
theorem i_TooMany_TakenName (fs : List (Str × D)) : kIsi objL exL ask [.exc "TooMany" fs, .fn "TakenName"] = some (.bl false) := (isi_exc in_TooMany.1 in_TooMany.2 in_TakenName.2).trans (by rw [show subB "TooMany" "TakenName" = false by decide +kernel])
theorem i_TooMany_Unlike (fs : List (Str × D)) : kIsi objL exL ask [.exc "TooMany" fs, .fn "Unlike"] = some (.bl false) := (isi_exc in_TooMany.1 in_TooMany.2 in_Unlike.2).trans (by rw [show subB "TooMany" "Unlike" = false by decide +kernel])
theorem i_TooMany_NotThere (fs : List (Str × D)) : kIsi objL exL ask [.exc "TooMany" fs, .fn "NotThere"] = some (.bl false) := (isi_exc in_TooMany.1 in_TooMany.2 in_NotThere.2).trans (by rw [show subB "TooMany" "NotThere" = false by decide +kernel])
theorem i_TooMany_TooMany (fs : List (Str × D)) : kIsi objL exL ask [.exc "TooMany" fs, .fn "TooMany"] = some (.bl true) := (isi_exc in_TooMany.1 in_TooMany.2 in_TooMany.2).trans (by rw [show subB "TooMany" "TooMany" = true by decide +kernel])
theorem i_TooMany_NotKept (fs : List (Str × D)) : kIsi objL exL ask [.exc "TooMany" fs, .fn "NotKept"] = some (.bl false) := (isi_exc in_TooMany.1 in_TooMany.2 in_NotKept.2).trans (by rw [show subB "TooMany" "NotKept" = false by decide +kernel])
theorem i_TooMany_NothingToUndo (fs : List (Str × D)) : kIsi objL exL ask [.exc "TooMany" fs, .fn "NothingToUndo"] = some (.bl false) := (isi_exc in_TooMany.1 in_TooMany.2 in_NothingToUndo.2).trans (by rw [show subB "TooMany" "NothingToUndo" = false by decide +kernel])
theorem i_TooMany_NothingToRedo (fs : List (Str × D)) : kIsi objL exL ask [.exc "TooMany" fs, .fn "NothingToRedo"] = some (.bl false) := (isi_exc in_TooMany.1 in_TooMany.2 in_NothingToRedo.2).trans (by rw [show subB "TooMany" "NothingToRedo" = false by decide +kernel])
theorem iv_TooMany (fs : List (Str × D)) : kIsi objL exL ask [.exc "TooMany" fs, .ty "ValueError"] = some (.bl true) := (isi_ve in_TooMany.1 in_TooMany.2).trans (by rw [show isTB "TooMany" "ValueError" = true by decide +kernel])
theorem mk_TooMany (one two three : D) (q : Pen) : m__law_more_kinds [.exc "TooMany" [("limit", three), ("many", two), ("what", one)]] q = .ok (.lst [.tup [.str "many", one, two, three]]) q := by
  have l0 : List.lookup ("what" : Str) [("limit", three), ("many", two), ("what", one)] = some one := by rw [look_put', if_neg (by decide), look_put', if_neg (by decide), look_put', if_pos rfl]
  have l1 : List.lookup ("many" : Str) [("limit", three), ("many", two), ("what", one)] = some two := by rw [look_put', if_neg (by decide), look_put', if_pos rfl]
  have l2 : List.lookup ("limit" : Str) [("limit", three), ("many", two), ("what", one)] = some three := by rw [look_put', if_pos rfl]
  simp (decide := true) [m__law_more_kinds, b__law_more_kinds, mDefQ, mDef, env0, mSeq, mSetO, mLst, aNil, aCons, mIfS, mT, mCall, mVal, mC, bind_ok, res_ok, mApp, mTup, mExf, mNext, mRet, mOp, mOwn, mFn, Res.fin, Out.ne, kAdd, mFrzS, sizeLine_eq, i_TooMany_BadNumber, i_TooMany_BadRow, i_TooMany_BadTable, i_TooMany_BadWeb, i_TooMany_BadLot, i_TooMany_BadName, i_TooMany_BadText, i_TooMany_NoPlace, i_TooMany_NoName, i_TooMany_TakenName, i_TooMany_Unlike, i_TooMany_NotThere, i_TooMany_TooMany, i_TooMany_NotKept, i_TooMany_NothingToUndo, i_TooMany_NothingToRedo, in_TooMany.1, l0, l1, l2]
theorem kk_TooMany (one two three : D) (q : Pen) : m__law_kinds [.exc "TooMany" [("limit", three), ("many", two), ("what", one)]] q = .ok (.lst [.tup [.str "many", one, two, three]]) q := by
  have mk := mk_TooMany one two three q
  simp (decide := true) [m__law_kinds, b__law_kinds, mDefQ, mDef, env0, mSeq, mSetO, mLst, aNil, aCons, mIfS, mT, mCall, mVal, mC, bind_ok, res_ok, mApp, mTup, mExf, mNext, mRet, mOp, mOwn, mFn, Res.fin, Out.ne, kAdd, mFrzS, sizeLine_eq, i_TooMany_BadNumber, i_TooMany_BadRow, i_TooMany_BadTable, i_TooMany_BadWeb, i_TooMany_BadLot, i_TooMany_BadName, i_TooMany_BadText, i_TooMany_NoPlace, i_TooMany_NoName, i_TooMany_TakenName, i_TooMany_Unlike, i_TooMany_NotThere, i_TooMany_TooMany, i_TooMany_NotKept, i_TooMany_NothingToUndo, i_TooMany_NothingToRedo, in_TooMany.1, mk]
theorem fault_TooMany (one two three : D) (n0 : one.noX = true) (c0 : one.noC = true) (n1 : two.noX = true) (c1 : two.noC = true) (n2 : three.noX = true) (c2 : three.noC = true) {cb : EM} {env : Env} {q q2 : Pen} (h : cb (frzE env) q = .err ⟨"TooMany", [("limit", three), ("many", two), ("what", one)]⟩ q2) : mLam 3 b__law_fault cb env q = .ok (.tup [.str "many", one, two, three]) q2 := by
  have kk := kk_TooMany one two three q2
  simp (decide := true) [b__law_fault, mLam, env0, mSeq, mSet, mSetO, mLst, aNil, aCons, mIfS, mIf, mTAnd, mT, mCall, mVal, mC, bind_ok, bind_err, res_ok, res_err, mTup, mNext, mRet, mOp, mFn, Res.fin, Out.ne, sizeLine_eq, gNm, eq_int, mDrop, mTry, Slot.noX, D.noX, D.noXs, D.noXf, D.noC, D.noCs, mClo, len_lst, len_tup, kIx, D.items, L2.atI, ixN, h, kk, iv_TooMany, in_TooMany.1, n0, c0, n1, c1, n2, c2]
end Lw
end Pu
end

section
set_option maxHeartbeats 4000000
namespace Pu
namespace Lw
open PySem PySem.Spec PyProof.Rows L2
/-! #### rows and their fractions: no program in sight -/
def mt : List Int → Int × Int × Int × Int
  | [] => (1, 0, 0, 1)
  | x :: r => (x * (mt r).1 - (mt r).2.2.1, x * (mt r).2.1 - (mt r).2.2.2, (mt r).1, (mt r).2.1)
def frP (r : List Int) : Int := (mt r).1
def frQ (r : List Int) : Int := (mt r).2.2.1
theorem frP_cons (x : Int) (r : List Int) : frP (x :: r) = x * frP r - frQ r := rfl
theorem frQ_cons (x : Int) (r : List Int) : frQ (x :: r) = frP r := rfl
theorem mt_det : ∀ r : List Int, (mt r).1 * (mt r).2.2.2 - (mt r).2.1 * (mt r).2.2.1 = 1
  | [] => rfl
  | x :: r => by
    have h := mt_det r
    show (x * (mt r).1 - (mt r).2.2.1) * (mt r).2.1 - (x * (mt r).2.1 - (mt r).2.2.2) * (mt r).1 = 1
    generalize (mt r).1 = a at *
    generalize (mt r).2.1 = b at *
    generalize (mt r).2.2.1 = c at *
    generalize (mt r).2.2.2 = d at *
    grind
theorem mt_app (y : Int) : ∀ r : List Int, mt (r ++ [y]) = ((mt r).1 * y + (mt r).2.1, -(mt r).1, (mt r).2.2.1 * y + (mt r).2.2.2, -(mt r).2.2.1)
  | [] => by
    show (y * 1 - 0, y * 0 - 1, 1, 0) = (1 * y + 0, -1, 0 * y + 1, -0)
    simp
  | x :: r => by
    have h := mt_app y r
    show (x * (mt (r ++ [y])).1 - (mt (r ++ [y])).2.2.1, x * (mt (r ++ [y])).2.1 - (mt (r ++ [y])).2.2.2, (mt (r ++ [y])).1, (mt (r ++ [y])).2.1) = _
    rw [h]
    show _ = ((x * (mt r).1 - (mt r).2.2.1) * y + (x * (mt r).2.1 - (mt r).2.2.2), -(x * (mt r).1 - (mt r).2.2.1), (mt r).1 * y + (mt r).2.1, -(mt r).1)
    generalize (mt r).1 = a
    generalize (mt r).2.1 = b
    generalize (mt r).2.2.1 = c
    generalize (mt r).2.2.2 = d
    refine Prod.ext ?_ (Prod.ext ?_ rfl)
    · show x * (a * y + b) - (c * y + d) = (x * a - c) * y + (x * b - d)
      grind
    · show x * -a - -c = -(x * a - c)
      grind
theorem mt_rev : ∀ r : List Int, mt r.reverse = ((mt r).1, -(mt r).2.2.1, -(mt r).2.1, (mt r).2.2.2)
  | [] => rfl
  | x :: r => by
    rw [List.reverse_cons, mt_app, mt_rev r]
    show ((mt r).1 * x + -(mt r).2.2.1, -(mt r).1, -(mt r).2.1 * x + (mt r).2.2.2, - -(mt r).2.1) = (x * (mt r).1 - (mt r).2.2.1, -(mt r).1, -(x * (mt r).2.1 - (mt r).2.2.2), (mt r).2.1)
    generalize (mt r).1 = a
    generalize (mt r).2.1 = b
    generalize (mt r).2.2.1 = c
    generalize (mt r).2.2.2 = d
    refine Prod.ext ?_ (Prod.ext rfl (Prod.ext ?_ ?_))
    · show a * x + -c = x * a - c
      grind
    · show -b * x + d = -(x * b - d)
      grind
    · show - -b = b
      omega
theorem rev_P (r : List Int) : frP r.reverse = frP r := by
  unfold frP
  rw [mt_rev]
theorem rev_Q (r : List Int) : frP r ∣ frQ r * frQ r.reverse - 1 := by
  unfold frP frQ
  rw [mt_rev]
  show (mt r).1 ∣ (mt r).2.2.1 * -(mt r).2.1 - 1
  refine ⟨-(mt r).2.2.2, ?_⟩
  have h := mt_det r
  generalize (mt r).1 = a at *
  generalize (mt r).2.1 = b at *
  generalize (mt r).2.2.1 = c at *
  generalize (mt r).2.2.2 = d at *
  grind
def Big (r : List Int) : Prop := ∀ x ∈ r, 2 ≤ x
theorem fr_pos : ∀ {r : List Int}, Big r → 0 ≤ frQ r ∧ frQ r < frP r
  | [], _ => by decide
  | x :: r, h => by
    obtain ⟨h1, h2⟩ := fr_pos fun y hy => h y (List.mem_cons_of_mem _ hy)
    have hx := h x List.mem_cons_self
    rw [frP_cons, frQ_cons]
    have : 2 * frP r ≤ x * frP r := Int.mul_le_mul_of_nonneg_right hx (by omega)
    omega
theorem fr_gcd : ∀ r : List Int, Int.gcd (frP r) (frQ r) = 1
  | [] => by decide
  | x :: r => by
    rw [frP_cons, frQ_cons, show x * frP r - frQ r = -frQ r + frP r * x by rw [Int.mul_comm]; omega, Int.gcd_add_mul_left_left, Int.neg_gcd, Int.gcd_comm]
    exact fr_gcd r
theorem fr_size {B : Nat} : ∀ {r : List Int}, Big r → (∀ x ∈ r, x.natAbs < 2 ^ B) → (frP r).natAbs < 2 ^ (B * r.length + 1)
  | [], _, _ => by show (1 : Int).natAbs < 2 ^ (B * 0 + 1); rw [Nat.mul_zero]; decide
  | x :: r, h, hb => by
    have h' := fun y hy => h y (List.mem_cons_of_mem x hy)
    have ih := fr_size (B := B) h' fun y hy => hb y (List.mem_cons_of_mem _ hy)
    obtain ⟨h1, h2⟩ := fr_pos h'
    have hx := h x List.mem_cons_self
    have hx2 := hb x List.mem_cons_self
    rw [frP_cons, List.length_cons, Nat.mul_succ]
    have h3 : x.natAbs * (frP r).natAbs < 2 ^ (B + (B * r.length + 1)) := pow_mul_lt hx2 ih
    have h4 : (x * frP r).natAbs = x.natAbs * (frP r).natAbs := Int.natAbs_mul _ _
    have h5 : 2 * frP r ≤ x * frP r := Int.mul_le_mul_of_nonneg_right hx (by omega)
    have h6 : (x * frP r - frQ r).natAbs ≤ (x * frP r).natAbs := by omega
    rw [show B * r.length + B + 1 = B + (B * r.length + 1) by omega]
    omega
/-- the greater quotient -/
def clg (p q : Int) : Int := (p + q - 1).fdiv q
theorem clg_spec {p q : Int} (hq : 0 < q) : 0 ≤ clg p q * q - p ∧ clg p q * q - p < q := by
  unfold clg
  have h1 := Int.mul_fdiv_add_fmod (p + q - 1) q
  have h2 := Int.fmod_nonneg_of_pos (p + q - 1) hq
  have h3 := Int.fmod_lt_of_pos (p + q - 1) hq
  rw [Int.mul_comm] at h1
  omega
theorem clg_uniq {p q x : Int} (hq : 0 < q) (h1 : 0 ≤ x * q - p) (h2 : x * q - p < q) : clg p q = x := by
  obtain ⟨k1, k2⟩ := clg_spec (p := p) hq
  generalize clg p q = y at *
  rcases Int.lt_trichotomy y x with h | h | h
  · have : (y + 1) * q ≤ x * q := Int.mul_le_mul_of_nonneg_right (by omega) (by omega)
    rw [Int.add_mul] at this
    omega
  · exact h
  · have : (x + 1) * q ≤ y * q := Int.mul_le_mul_of_nonneg_right (by omega) (by omega)
    rw [Int.add_mul] at this
    omega
theorem clg_neg {p q : Int} (hq : 0 < q) : 0 - (0 - p).fdiv q = clg p q := by
  refine (clg_uniq hq ?_ ?_).symm
  all_goals
    have h1 := Int.mul_fdiv_add_fmod (0 - p) q
    have h2 := Int.fmod_nonneg_of_pos (0 - p) hq
    have h3 := Int.fmod_lt_of_pos (0 - p) hq
    rw [Int.mul_comm] at h1
    rw [Int.sub_mul, Int.zero_mul]
    omega
def exN : Nat → Int → Int → List Int
  | 0, _, _ => []
  | n + 1, p, q => if q = 0 then [] else clg p q :: exN n q (clg p q * q - p)
theorem exN_len : ∀ (n : Nat) (p q : Int), (exN n p q).length ≤ n
  | 0, _, _ => Nat.le_refl _
  | n + 1, p, q => by
    unfold exN
    split
    · exact Nat.zero_le _
    · rw [List.length_cons]
      exact Nat.succ_le_succ (exN_len n _ _)
theorem exN_stop : ∀ (n k : Nat) (p q : Int), (exN n p q).length < n → exN (n + k) p q = exN n p q
  | 0, _, _, _, h => absurd h (Nat.not_lt_zero _)
  | n + 1, k, p, q, h => by
    rw [show n + 1 + k = (n + k) + 1 by omega]
    unfold exN at h ⊢
    by_cases hq : q = 0
    · rw [if_pos hq, if_pos hq]
    · rw [if_neg hq] at h
      rw [if_neg hq, if_neg hq, exN_stop n k _ _ (by rw [List.length_cons] at h; omega)]
theorem exN_mono : ∀ (n k : Nat) (p q : Int), (exN n p q).length ≤ (exN (n + k) p q).length
  | 0, _, _, _ => Nat.zero_le _
  | n + 1, k, p, q => by
    rw [show n + 1 + k = (n + k) + 1 by omega]
    unfold exN
    by_cases hq : q = 0
    · rw [if_pos hq, if_pos hq]
      exact Nat.le_refl _
    · rw [if_neg hq, if_neg hq, List.length_cons, List.length_cons]
      exact Nat.succ_le_succ (exN_mono n k _ _)
theorem exN_row : ∀ {r : List Int} (n : Nat), Big r → r.length ≤ n → exN n (frP r) (frQ r) = r
  | [], 0, _, _ => rfl
  | [], n + 1, _, _ => if_pos rfl
  | x :: r, 0, _, h => by cases h
  | x :: r, n + 1, h, hl => by
    have h' := fun y hy => h y (List.mem_cons_of_mem x hy)
    obtain ⟨h1, h2⟩ := fr_pos h'
    have e : clg (frP (x :: r)) (frQ (x :: r)) = x := by
      rw [frP_cons, frQ_cons]
      exact clg_uniq (by omega) (by omega) (by omega)
    unfold exN
    rw [e, frP_cons, frQ_cons, if_neg (by omega), show x * frP r - (x * frP r - frQ r) = frQ r by omega, exN_row n h' (by simpa using hl)]
theorem exN_two : ∀ (n k : Nat), exN n ((k : Int) + 1) k = List.replicate (min n k) 2
  | 0, k => by rw [Nat.zero_min]; rfl
  | n + 1, 0 => by rw [Nat.min_zero]; exact if_pos rfl
  | n + 1, k + 1 => by
    have e : clg (((k + 1 : Nat) : Int) + 1) ((k + 1 : Nat) : Int) = 2 := clg_uniq (by omega) (by omega) (by omega)
    unfold exN
    rw [if_neg (by omega), e, show 2 * ((k + 1 : Nat) : Int) - (((k + 1 : Nat) : Int) + 1) = (k : Int) by omega, show ((k + 1 : Nat) : Int) = (k : Int) + 1 by omega, exN_two n k, Nat.succ_min_succ, List.replicate_succ]
end Lw
end Pu
end

section
set_option maxHeartbeats 4000000
namespace Pu
namespace Lw
open PySem PySem.Spec PyProof.Rows L2
/-! #### walks -/
section
variable {env : Env} {q q1 q2 q3 : Pen} {d e f z : D} {ds : List D} {a b c m : EM} {s t : Slot}
theorem par2_of {r : AS} {i j : Nat} (h : r env q = .ok [s, t] q1) : mPar2 i j r env q = .next ((env.set i s).set j t) q1 := by
  unfold mPar2
  rw [h]
  rfl
theorem snil : sNil env q = .ok [] q := rfl
theorem sval_of {r : AS} {ss : List Slot} (h : a env q = .ok d q1) (hd : d.isFn = false) (h2 : r env q1 = .ok ss q2) : sVal a r env q = .ok (.val d :: ss) q2 := by
  unfold sVal
  rw [h, bind_ok, hd]
  show ((r env q1).bind fun ss q2 => Out.ok (Slot.val d :: ss) q2) = _
  rw [h2]
  rfl
theorem sown_of {a : AM} {r : AS} {ss : List Slot} (h : a env q = .ok ds q1) (hr : r env q1 = .ok ss q2) : sOwn a r env q = .ok (.own ds :: ss) q2 := by
  unfold sOwn
  rw [h, bind_ok, hr]
  rfl
theorem or_t {s t : TM} (h : s env q = .ok true q1) : mTOr s t env q = .ok true q1 := by
  unfold mTOr
  rw [h, bind_ok]
  rfl
theorem or_f {s t : TM} (h : s env q = .ok false q1) : mTOr s t env q = t env q1 := by
  unfold mTOr
  rw [h, bind_ok]
  rfl
theorem tm_to {t : TM} {b c : Bool} (h : t env q = .ok b q1) (e : b = c) : t env q = .ok c q1 := by rw [h, e]
theorem neg_of {i : Int} (h : a env q = .ok (.int i) q1) : mNeg a env q = .ok (.int (-i)) q1 := by
  unfold mNeg
  rw [h, bind_ok]
theorem app_of {i : Nat} (h1 : env[i]? = some (.own ds)) (h : m env q = .ok d q1) (hl : ds.length ≤ 1000) : mApp i m env q = .next (env.set i (.own (ds ++ [d]))) q1 := by
  unfold mApp
  rw [h1]
  show (m env q).res env _ = _
  rw [h, res_ok]
  exact if_pos (by rw [sizeLine_eq]; omega)
theorem for_of2 {it : AM} {g : GM} {b : SM} (h : it env q = .ok ds q1) : mFor it g b env q = loopS g b ds env q1 := by
  unfold mFor
  rw [h, res_ok]
theorem chain_tt {k k' : D → D → Option D} (h : a env q = .ok d q1) (h2 : b env q1 = .ok e q2) (hk : k d e = some (.bl true)) (h3 : c env q2 = .ok f q3) (hk' : k' e f = some z) : mChain k k' a b c env q = .ok z q3 := by
  unfold mChain
  rw [h, bind_ok, h2, bind_ok, hk]
  show (c env q2).bind _ = _
  rw [h3, bind_ok, hk']
theorem lst_of {r : AM} (h : r env q = .ok ds q1) (hl : ds.length ≤ 1000) : mLst r env q = .ok ds q1 := by
  unfold mLst
  rw [h, bind_ok, if_pos (by rw [sizeLine_eq]; omega)]
theorem while_t {t : TM} {b : SM} {n : Nat} (h : t env q = .ok true q1) {e2 : Env} (hb : b env q1 = .next e2 q2) : whileS t b (n + 1) env q = whileS t b n e2 q2 := by
  rw [whileS, h, res_ok, if_pos rfl, hb]
theorem while_err {t : TM} {b : SM} {n : Nat} (h : t env q = .ok true q1) {e2 : Env} {x : Err} (hb : b env q1 = .err x e2 q2) : whileS t b (n + 1) env q = .err x e2 q2 := by
  rw [whileS, h, res_ok, if_pos rfl, hb]
theorem while_f {t : TM} {b : SM} {n : Nat} (h : t env q = .ok false q1) : whileS t b (n + 1) env q = .next env q1 := by
  rw [whileS, h, res_ok, if_neg (by decide)]
end
theorem le_int (i j : Int) : kLe (.int i) (.int j) = some (.bl (decide (i ≤ j))) := rfl
theorem lt_int (i j : Int) : kLt (.int i) (.int j) = some (.bl (decide (i < j))) := rfl
theorem ge_int (i j : Int) : kGe (.int i) (.int j) = some (.bl (decide (i ≥ j))) := rfl
theorem sub_int (i j : Int) : kSub (.int i) (.int j) = some (.int (i - j)) := rfl
theorem m_isint (i : Int) (q : Pen) : m_is_integer [.int i] q = .ok (.bl true) q := m_integer rfl q
theorem m_indexes {d : D} {ns : List Int} (hd : d = .lst (ns.map D.int) ∨ d = .tup (ns.map D.int)) (hl : ns.length ≤ sizeLine) (n : Int) (q : Pen) : m_is_indexes [d, .int n] q = .ok (.bl (decide ((ns.length : Int) = n))) q := by
  have hb : d.bs = true := by rcases hd with rfl | rfl <;> rfl
  have hL : d.isL = true := by rcases hd with rfl | rfl <;> rfl
  have e1 := m_list hb q
  have e2 : kLen [d] = some (.int ns.length) := by rcases hd with rfl | rfl <;> simp [kLen]
  have hc : mComp (mIt (mVal 0)) [2] (gNm 2) tmYes (mFn m_is_integer (aCons (mVal 2) aNil)) [.val d, .val (.int n), .un] q = .ok (ns.map fun _ => .bl true) q := by
    refine comp_ofM D.int _ ?_ hl fun x hx => ⟨_, rfl, (fn1 rfl).trans (m_isint x q)⟩
    rcases hd with rfl | rfl <;> rfl
  have ha : kAll [.lst (ns.map fun _ => D.bl true)] = some (.bl true) := by
    rw [all_map (fun _ => true) ns]
    simp
  by_cases h : (ns.length : Int) = n
  · simp -implicitDefEqProofs [mDef, env0, env1, mDefI, mSeq, mSet, mSetO, mIfS, mTAnd, mTOr, mTNot, mT, mV, mIf, mOp, mChain, mCall, mFn, mFCall, mFr, mTup, mLst, aCons, aNil, mVal, mOwn, mC, mNeg, mNext, mRet, mDrop, bind_ok, bind_err, res_ok, res_err, Res.fin, Out.ne, gNm, gTp, gsCons, gsNil, mIt, mRng1, mSl, oNone, oSome, kInt, add_int, len_tup, len_lst, tuple_lst, tuple_tup, mMk, mIn, mFlds, putD, mChk, mDo, mRaise, mApp, mAppPop, mSetIx, mLRg, mRg1, mTRg, mRg2, mPar2, sVal, sOwn, sNil, D.isFn, sizeLine_eq, eq_int, ne_int, wipeE, m_is_indexes, b_is_indexes, e1, e2, hL, hc, ha, h]
  · simp -implicitDefEqProofs [mDef, env0, env1, mDefI, mSeq, mSet, mSetO, mIfS, mTAnd, mTOr, mTNot, mT, mV, mIf, mOp, mChain, mCall, mFn, mFCall, mFr, mTup, mLst, aCons, aNil, mVal, mOwn, mC, mNeg, mNext, mRet, mDrop, bind_ok, bind_err, res_ok, res_err, Res.fin, Out.ne, gNm, gTp, gsCons, gsNil, mIt, mRng1, mSl, oNone, oSome, kInt, add_int, len_tup, len_lst, tuple_lst, tuple_tup, mMk, mIn, mFlds, putD, mChk, mDo, mRaise, mApp, mAppPop, mSetIx, mLRg, mRg1, mTRg, mRg2, mPar2, sVal, sOwn, sNil, D.isFn, sizeLine_eq, eq_int, ne_int, wipeE, m_is_indexes, b_is_indexes, e1, e2, hL, hc, ha, h]
theorem need_ok {d : D} {ns : List Int} (hd : d = .lst (ns.map D.int) ∨ d = .tup (ns.map D.int)) (h1 : 1 ≤ ns.length) (h2 : ns.length ≤ 400) (hb : Big ns) (w : Str) (q : Pen) : m_need_line [d, .str w] q = .ok (rowD ns) q := by
  have hbs : d.bs = true := by rcases hd with rfl | rfl <;> rfl
  have hL : d.isL = true := by rcases hd with rfl | rfl <;> rfl
  have k1 := m_list hbs q
  rw [hL] at k1
  have e2 : kLen [d] = some (.int ns.length) := by rcases hd with rfl | rfl <;> simp [kLen]
  have k2 := m_indexes hd (by rw [sizeLine_eq]; omega) ns.length q
  rw [decide_eq_true rfl] at k2
  let E : Slot → Env := fun s => [.val d, .val (.str w), s, .un]
  have t1 : mT (mFn m_is_list (aCons (mVal 0) aNil)) (E .un) q = .ok true q := t_of ((fn1 rfl).trans k1)
  have t2 : mT (mChain kLe kLe (mC (.int 1)) (mCall kLen (aCons (mVal 0) aNil)) (mC (.int 400))) (E .un) q = .ok true q := t_of (chain_tt rfl (call_of (acc rfl ac0) e2) (by rw [le_int, decide_eq_true (by omega)]) rfl (by rw [le_int, decide_eq_true (by omega)]))
  have t3 : mT (mFn m_is_indexes (aCons (mVal 0) (aCons (mCall kLen (aCons (mVal 0) aNil)) aNil))) (E .un) q = .ok true q := t_of ((fn2 rfl (call_of (acc rfl ac0) e2)).trans k2)
  have e1 : mSet (mV (mTAnd (mT (mFn m_is_list (aCons (mVal 0) aNil))) (mTAnd (mT (mChain kLe kLe (mC (.int 1)) (mCall kLen (aCons (mVal 0) aNil)) (mC (.int 400)))) (mT (mFn m_is_indexes (aCons (mVal 0) (aCons (mCall kLen (aCons (mVal 0) aNil)) aNil))))))) (gNm 2) (E .un) q = .next (E (.val (.bl true))) q := set_of (v_of ((and_t t1).trans ((and_t t2).trans t3))) rfl
  have hi : mIt (mVal 0) (E (.val (.bl true))) q = .ok (ns.map D.int) q := by
    rcases hd with rfl | rfl
    · exact mit_lst rfl
    · exact mit_tup rfl
  have cm : mComp (mIt (mVal 0)) [3] (gNm 3) tmYes (mOp kGe (mVal 3) (mC (.int 2))) (E (.val (.bl true))) q = .ok (ns.map fun x => .bl (decide (x ≥ 2))) q := comp_ofM D.int _ hi (by rw [sizeLine_eq]; omega) fun x _ => ⟨_, rfl, op_of rfl rfl (ge_int _ _)⟩
  have t4 : mT (mCall kAll (aCons (mFr (mComp (mIt (mVal 0)) [3] (gNm 3) tmYes (mOp kGe (mVal 3) (mC (.int 2))))) aNil)) (E (.val (.bl true))) q = .ok true q := tm_to (t_of (call_of (acc (fr_of cm) ac0) (all_map _ _))) (List.all_eq_true.mpr fun x hx => decide_eq_true (hb x hx))
  have t5 : mT (mVal 2) (E (.val (.bl true))) q = .ok true q := t_of rfl
  show (b_need_line (E .un) q).fin = _
  unfold b_need_line
  rw [(seq_next e1).trans ((seq_next (if_skip ((or_f (not_of t5)).trans (not_of t4)))).trans (ret_of (d := rowD ns) (call_of (acc rfl ac0) (by rcases hd with rfl | rfl <;> rfl))))]
  rfl
/-! fractions -/
abbrev frBody : SM := (mPar2 1 2 (sVal (mOp kSub (mOp kMul (mVal 3) (mVal 1)) (mVal 2)) (sVal (mVal 1) sNil)))
theorem fr_loop {T : D} (q : Pen) : ∀ (l t : List Int) (s3 : Slot), (∀ x ∈ l, x.natAbs < 2 ^ 64) → ∃ s3', loopS (gNm 3) frBody (l.map D.int) [.val T, .val (.int (frP t)), .val (.int (frQ t)), s3] q = .next [.val T, .val (.int (frP (l.reverse ++ t))), .val (.int (frQ (l.reverse ++ t))), s3'] q
  | [], t, s3, _ => ⟨s3, rfl⟩
  | x :: l, t, s3, h => by
    obtain ⟨s3', ih⟩ := fr_loop q l (x :: t) (.val (.int x)) fun y hy => h y (List.mem_cons_of_mem _ hy)
    refine ⟨s3', ?_⟩
    rw [List.reverse_cons, List.append_assoc, List.singleton_append, ← ih]
    have k := small_mul (a := x) (b := frP t) (.inl (h x List.mem_cons_self))
    have hb : frBody [.val T, .val (.int (frP t)), .val (.int (frQ t)), .val (.int x)] q = .next [.val T, .val (.int (frP (x :: t))), .val (.int (frQ (x :: t))), .val (.int x)] q := par2_of (sval_of (op_of (op_of rfl rfl k) rfl (sub_int _ _)) rfl (sval_of rfl rfl snil))
    have hg : gNm 3 (.int x) [.val T, .val (.int (frP t)), .val (.int (frQ t)), s3] = some [.val T, .val (.int (frP t)), .val (.int (frQ t)), .val (.int x)] := rfl
    rw [List.map_cons]
    simp only [loopS, hg, hb]
theorem ix_neg {ds : List D} (h : ds ≠ []) : kIx (.tup ds) (.int (-1)) = some (ds.getLast h) := by
  have hl : 0 < ds.length := List.length_pos_iff.mpr h
  show L2.atI ds (-1) = _
  unfold L2.atI
  have hx2 : ixN ds.length (-1) = some (ds.length - 1) := by
    unfold ixN
    rw [if_neg (by decide), if_pos (by omega)]
    congr 1
    omega
  rw [hx2]
  show ds[ds.length - 1]? = _
  rw [List.getElem?_eq_getElem (by omega), List.getLast_eq_getElem]
theorem last_frac (z : Int) : frP [z] = z ∧ frQ [z] = 1 := by
  refine ⟨?_, rfl⟩
  show z * 1 - 0 = z
  omega
theorem rev2 {α : Type} (xs : List α) (h : 1 ≤ xs.length) : revD xs (some (-2)) = xs.dropLast.reverse := by
  unfold revD
  rw [List.dropLast_eq_take]
  congr 2
  simp [HT.rvN]
  omega
theorem m_frac {ns : List Int} (hne : ns ≠ []) (hs : ∀ x ∈ ns, x.natAbs < 2 ^ 64) (q : Pen) : m_fraction_of [rowD ns] q = .ok (.tup [.int (frP ns), .int (frQ ns)]) q ∧ m__law_fraction [rowD ns] q = .ok (.tup [.int (frP ns), .int (frQ ns)]) q := by
  have hneD : ns.map D.int ≠ [] := fun h => hne (List.map_eq_nil_iff.mp h)
  have hl : 1 ≤ ns.length := List.length_pos_iff.mpr hne
  have hg : (ns.map D.int).getLast hneD = .int (ns.getLast hne) := List.getLast_map _
  have il := ix_neg hneD
  rw [hg] at il
  obtain ⟨e1, e2⟩ := last_frac (ns.getLast hne)
  obtain ⟨s3, lp⟩ := fr_loop (T := rowD ns) q ns.dropLast.reverse [ns.getLast hne] .un fun x hx => hs x (List.dropLast_subset _ (List.mem_reverse.mp hx))
  rw [List.reverse_reverse, List.dropLast_concat_getLast hne, e1, e2, List.map_reverse] at lp
  have st : mPar2 1 2 (sVal (mOp kIx (mVal 0) (mNeg (mC (.int 1)))) (sVal (mC (.int 1)) sNil)) [.val (rowD ns), .un, .un, .un] q = .next [.val (rowD ns), .val (.int (ns.getLast hne)), .val (.int 1), .un] q := par2_of (sval_of (op_of rfl (neg_of rfl) il) rfl (sval_of rfl rfl snil))
  constructor
  · have r1 : mSlR (mVal 0) (oSome (mNeg (mC (.int 2)))) (oSome (mNeg (mC (.int 1)))) [.val (rowD ns), .val (.int (ns.getLast hne)), .val (.int 1), .un] q = .ok (.tup (ns.dropLast.map D.int).reverse) q := by
      have e : mSlR (mVal 0) (oSome (mNeg (mC (.int 2)))) (oSome (mNeg (mC (.int 1)))) [.val (rowD ns), .val (.int (ns.getLast hne)), .val (.int 1), .un] q = .ok (.tup (revD (ns.map D.int) (some (-2)))) q := rfl
      rw [e, rev2 _ (by rw [List.length_map]; exact hl), ← List.map_dropLast]
    show (b_fraction_of [.val (rowD ns), .un, .un, .un] q).fin = _
    unfold b_fraction_of
    rw [(seq_next st).trans ((seq_next ((for_of (mit_tup r1)).trans lp)).trans (ret_of (tup_of (acc rfl (acc rfl ac0)) (by simp))))]
    rfl
  · have r1 : mSlR (mSl (mVal 0) oNone (oSome (mNeg (mC (.int 1))))) oNone (oSome (mNeg (mC (.int 1)))) [.val (rowD ns), .val (.int (ns.getLast hne)), .val (.int 1), .un] q = .ok (.tup (ns.dropLast.map D.int).reverse) q := by
      have e : mSlR (mSl (mVal 0) oNone (oSome (mNeg (mC (.int 1))))) oNone (oSome (mNeg (mC (.int 1)))) [.val (rowD ns), .val (.int (ns.getLast hne)), .val (.int 1), .un] q = .ok (.tup (revD (cutD (ns.map D.int) none (some (-1))) none)) q := rfl
      rw [e, revD_none, cut_last, ← List.map_dropLast]
    show (b__law_fraction [.val (rowD ns), .un, .un, .un] q).fin = _
    unfold b__law_fraction
    rw [(seq_next st).trans ((seq_next ((for_of (mit_tup r1)).trans lp)).trans (ret_of (tup_of (acc rfl (acc rfl ac0)) (by simp))))]
    rfl
theorem m_linefrac {d : D} {ns : List Int} (hd : d = .lst (ns.map D.int) ∨ d = .tup (ns.map D.int)) (h1 : 1 ≤ ns.length) (h2 : ns.length ≤ 400) (hb : Big ns) (hs : ∀ x ∈ ns, x.natAbs < 2 ^ 64) (q : Pen) : m_line_fraction [d] q = .ok (.tup [.int (frP ns), .int (frQ ns)]) q := by
  have k1 := need_ok hd h1 h2 hb "row" q
  have k2 := (m_frac (ns := ns) (fun h => by rw [h] at h1; simp at h1) hs q).1
  show (b_line_fraction [.val d] q).fin = _
  unfold b_line_fraction
  rw [ret_of ((fn1 ((fn2 rfl rfl).trans k1)).trans k2)]
  rfl
end Lw
end Pu
end

section
set_option maxHeartbeats 4000000
namespace Pu
namespace Lw
open PySem PySem.Spec PyProof.Rows L2
/-! #### rows of fractions, walked -/
def errB (w : Str) (d : D) : Err := ⟨"BadNumber", [("number", d), ("what", .str w)]⟩
def errM : Err := ⟨"TooMany", [("limit", .int 400), ("many", .int 401), ("what", .str "row")]⟩
theorem div_pos (a : Int) {q : Int} (h : 0 < q) (h2 : q.natAbs < 2 ^ 5000) : kDivI a q = some (.int (a.fdiv q)) := div_g a (by
  unfold gDiv
  rw [Bool.and_eq_true, Bool.or_eq_true, Bool.and_eq_true, decide_eq_true_eq, decide_eq_true_eq, decide_eq_true_eq, decide_eq_true_eq]
  refine ⟨by omega, .inr ⟨h, ?_⟩⟩
  have : Nat.log2 q.natAbs < 5000 := (Nat.log2_lt (by omega)).mpr h2
  omega)
theorem nf_ok {p q : Int} (p1 : 2 ≤ p) (p2 : p < 10 ^ 60) (q1 : 1 ≤ q) (q2 : q < p) (g : Int.gcd p q = 1) (pen : Pen) : m_need_fraction [.int p, .int q] pen = .ok .non pen := by
  have p2 : p < 1000000000000000000000000000000000000000000000000000000000000 := p2
  have t1 : mTNot (mT (mFn m_is_integer (aCons (mVal 0) aNil))) [.val (.int p), .val (.int q)] pen = .ok false pen := not_of (t_of ((fn1 rfl).trans (m_isint p pen)))
  have t2 : mTNot (mT (mChain kLe kLt (mC (.int 2)) (mVal 0) (mC (.int 1000000000000000000000000000000000000000000000000000000000000)))) [.val (.int p), .val (.int q)] pen = .ok false pen := not_of (t_of (chain_tt (z := .bl true) rfl rfl (by rw [le_int, decide_eq_true p1]) rfl (by rw [lt_int, decide_eq_true p2])))
  have t3 : mTNot (mT (mFn m_is_integer (aCons (mVal 1) aNil))) [.val (.int p), .val (.int q)] pen = .ok false pen := not_of (t_of ((fn1 rfl).trans (m_isint q pen)))
  have t4 : mTNot (mT (mChain kLe kLt (mC (.int 1)) (mVal 1) (mVal 0))) [.val (.int p), .val (.int q)] pen = .ok false pen := not_of (t_of (chain_tt (z := .bl true) rfl rfl (by rw [le_int, decide_eq_true q1]) rfl (by rw [lt_int, decide_eq_true q2])))
  have t5 : mT (mOp kNe (mCall kGcd (aCons (mVal 0) (aCons (mVal 1) aNil))) (mC (.int 1))) [.val (.int p), .val (.int q)] pen = .ok false pen := t_of (op_of (call_of (acc rfl (acc rfl ac0)) (gcd_ev p q)) rfl (by rw [ne_int, g]; rfl))
  show (b_need_fraction [.val (.int p), .val (.int q)] pen).fin = _
  unfold b_need_fraction
  rw [(seq_next (if_skip ((or_f t1).trans t2))).trans (if_skip ((or_f t3).trans ((or_f t4).trans t5)))]
  rfl
theorem nf_gcd {p q : Int} (p1 : 2 ≤ p) (p2 : p < 10 ^ 60) (q1 : 1 ≤ q) (q2 : q < p) (g : Int.gcd p q ≠ 1) (pen : Pen) : m_need_fraction [.int p, .int q] pen = .err (errB "q" (.int q)) pen := by
  have p2 : p < 1000000000000000000000000000000000000000000000000000000000000 := p2
  have t1 : mTNot (mT (mFn m_is_integer (aCons (mVal 0) aNil))) [.val (.int p), .val (.int q)] pen = .ok false pen := not_of (t_of ((fn1 rfl).trans (m_isint p pen)))
  have t2 : mTNot (mT (mChain kLe kLt (mC (.int 2)) (mVal 0) (mC (.int 1000000000000000000000000000000000000000000000000000000000000)))) [.val (.int p), .val (.int q)] pen = .ok false pen := not_of (t_of (chain_tt (z := .bl true) rfl rfl (by rw [le_int, decide_eq_true p1]) rfl (by rw [lt_int, decide_eq_true p2])))
  have t3 : mTNot (mT (mFn m_is_integer (aCons (mVal 1) aNil))) [.val (.int p), .val (.int q)] pen = .ok false pen := not_of (t_of ((fn1 rfl).trans (m_isint q pen)))
  have t4 : mTNot (mT (mChain kLe kLt (mC (.int 1)) (mVal 1) (mVal 0))) [.val (.int p), .val (.int q)] pen = .ok false pen := not_of (t_of (chain_tt (z := .bl true) rfl rfl (by rw [le_int, decide_eq_true q1]) rfl (by rw [lt_int, decide_eq_true q2])))
  have t5 : mT (mOp kNe (mCall kGcd (aCons (mVal 0) (aCons (mVal 1) aNil))) (mC (.int 1))) [.val (.int p), .val (.int q)] pen = .ok true pen := t_of (op_of (call_of (acc rfl (acc rfl ac0)) (gcd_ev p q)) rfl (by
    rw [ne_int, show (((Int.gcd p q : Nat) : Int) == 1) = false from beq_false_of_ne (by omega)]
    rfl))
  show (b_need_fraction [.val (.int p), .val (.int q)] pen).fin = _
  unfold b_need_fraction
  rw [(seq_next (if_skip ((or_f t1).trans t2))).trans ((if_t ((or_f t3).trans ((or_f t4).trans t5))).trans (raise_of (acc rfl (acc rfl ac0)) rfl))]
  rfl
theorem exN_zero : ∀ (n : Nat) (p : Int), exN n p 0 = []
  | 0, _ => rfl
  | n + 1, _ => if_pos rfl
abbrev rfBody : SM := (mSeq (mIfS (mT (mOp kEq (mCall kLen (aCons (mOwn 2) aNil)) (mC (.int 400)))) (mRaise "TooMany" ["what", "many", "limit"] (aCons (mC (.str "row")) (aCons (mOp kAdd (mC (.int 400)) (mC (.int 1))) (aCons (mC (.int 400)) aNil)))) mNext)
    (mSeq (mSet (mOp kDiv (mOp kSub (mOp kAdd (mVal 0) (mVal 1)) (mC (.int 1))) (mVal 1)) (gNm 3))
    (mSeq (mApp 2 (mVal 3))
    (mPar2 0 1 (sVal (mVal 1) (sVal (mOp kSub (mOp kMul (mVal 3) (mVal 1)) (mVal 0)) sNil))))))
theorem p60 {x : Int} (h0 : 0 ≤ x) (h : x < 10 ^ 60) : x.natAbs < 2 ^ 5000 := Nat.lt_of_lt_of_le (show x.natAbs < 2 ^ 200 from Nat.lt_of_lt_of_le (show x.natAbs < 10 ^ 60 by omega) (by decide +kernel)) (Nat.pow_le_pow_right (by decide) (by decide))
theorem mul_q {p q : Int} (q0 : 0 < q) (q1 : q < p) (p1 : p < 10 ^ 60) : kMul (.int (clg p q)) (.int q) = some (.int (clg p q * q)) := by
  refine mul_big ?_ (p60 (by omega) (by omega))
  obtain ⟨h1, h2⟩ := clg_spec (p := p) q0
  have h3 : 0 ≤ clg p q := by
    rcases Int.lt_or_le (clg p q) 0 with h | h
    · have := Int.mul_neg_of_neg_of_pos h q0
      omega
    · exact h
  have h4 : clg p q * 1 ≤ clg p q * q := Int.mul_le_mul_of_nonneg_left (by omega) h3
  have : (clg p q).natAbs < 2 * 10 ^ 60 := by omega
  exact Nat.lt_of_lt_of_le (Nat.lt_of_lt_of_le this (show 2 * 10 ^ 60 ≤ 2 ^ 300 by decide +kernel)) (Nat.pow_le_pow_right (by decide) (by decide))
theorem rf_while (pen : Pen) : ∀ (n k : Nat) (p q : Int) (F : List Int) (s3 : Slot), F.length + n = 400 → 0 ≤ q → q < p → p < 10 ^ 60 → ∃ p' q' s3', whileS (mT (mOp kGt (mVal 1) (mC (.int 0)))) rfBody (n + 1 + k) [.val (.int p), .val (.int q), .own (F.map D.int), s3] pen = if (exN (n + 1) p q).length ≤ n then .next [.val (.int p'), .val (.int q'), .own ((F ++ exN (n + 1) p q).map D.int), s3'] pen else .err errM [.val (.int p'), .val (.int q'), .own ((F ++ exN n p q).map D.int), s3'] pen := by
  intro n
  induction n with
  | zero =>
    intro k p q F s3 hF q0 qp pB
    have t : mT (mOp kGt (mVal 1) (mC (.int 0))) [.val (.int p), .val (.int q), .own (F.map D.int), s3] pen = .ok (decide (q > 0)) pen := t_of (op_of rfl rfl (gt_int _ _))
    refine ⟨p, q, s3, ?_⟩
    rw [show 0 + 1 + k = k + 1 by omega]
    by_cases hq : q = 0
    · subst hq
      rw [exN_zero, if_pos (by simp), List.append_nil]
      exact while_f (tm_to t (by simp))
    · have hne : ¬ (exN (0 + 1) p q).length ≤ 0 := by
        unfold exN
        rw [if_neg hq]
        simp
      rw [if_neg hne]
      show _ = Res.err errM [.val (.int p), .val (.int q), .own ((F ++ []).map D.int), s3] pen
      rw [List.append_nil]
      refine while_err (tm_to t (by simp; omega)) (seq_err ((if_t (t_of (op_of (call_of (acc rfl ac0) (len_lst _)) rfl ?_))).trans (raise_of (acc rfl (acc (op_of rfl rfl rfl) (acc rfl ac0))) rfl)))
      rw [List.length_map, eq_int, show ((F.length : Int) == 400) = true by rw [beq_iff_eq]; omega]
  | succ n ih =>
    intro k p q F s3 hF q0 qp pB
    have t : mT (mOp kGt (mVal 1) (mC (.int 0))) [.val (.int p), .val (.int q), .own (F.map D.int), s3] pen = .ok (decide (q > 0)) pen := t_of (op_of rfl rfl (gt_int _ _))
    by_cases hq : q = 0
    · subst hq
      refine ⟨p, 0, s3, ?_⟩
      rw [exN_zero, if_pos (by simp), List.append_nil, show n + 1 + 1 + k = (n + 1 + k) + 1 by omega]
      exact while_f (tm_to t (by simp))
    · have q1 : 0 < q := by omega
      obtain ⟨c1, c2⟩ := clg_spec (p := p) q1
      obtain ⟨p', q', s3', e⟩ := ih k q (clg p q * q - p) (F ++ [clg p q]) (.val (.int (clg p q))) (by rw [List.length_append, List.length_singleton]; omega) c1 c2 (by omega)
      refine ⟨p', q', s3', ?_⟩
      have d1 := div_pos (p + q - 1) q1 (p60 q0 (by omega))
      have m1 := mul_q q1 qp pB
      have hb : rfBody [.val (.int p), .val (.int q), .own (F.map D.int), s3] pen = .next [.val (.int q), .val (.int (clg p q * q - p)), .own ((F ++ [clg p q]).map D.int), .val (.int (clg p q))] pen := by
        refine (seq_next (if_skip (t_of (op_of (call_of (acc rfl ac0) (len_lst _)) rfl ?_)))).trans ((seq_next (set_of (op_of (op_of (op_of rfl rfl (add_int _ _)) rfl (sub_int _ _)) rfl d1) rfl)).trans ((seq_next (app_of rfl rfl (by rw [List.length_map]; omega))).trans ?_))
        · rw [List.length_map, eq_int, show ((F.length : Int) == 400) = false from beq_false_of_ne (by omega)]
        · rw [List.map_append]
          exact par2_of (sval_of rfl rfl (sval_of (op_of (op_of rfl rfl m1) rfl (sub_int _ _)) rfl snil))
      have e2 : exN (n + 1 + 1) p q = clg p q :: exN (n + 1) q (clg p q * q - p) := if_neg hq
      have e3 : exN (n + 1) p q = clg p q :: exN n q (clg p q * q - p) := if_neg hq
      rw [show n + 1 + 1 + k = (n + 1 + k) + 1 by omega, while_t (tm_to t (by simp; omega)) hb, e, e2, e3, List.length_cons]
      by_cases hl : (exN (n + 1) q (clg p q * q - p)).length ≤ n
      · rw [if_pos hl, if_pos (by omega), List.append_assoc]
        rfl
      · rw [if_neg hl, if_neg (by omega), List.append_assoc]
        rfl
theorem m_rowfrac {p q : Int} (p1 : 2 ≤ p) (p2 : p < 10 ^ 60) (q1 : 1 ≤ q) (q2 : q < p) (g : Int.gcd p q = 1) (pen : Pen) : m_row_of_fraction [.int p, .int q] pen = if (exN 401 p q).length ≤ 400 then .ok (rowD (exN 401 p q)) pen else .err errM pen := by
  have k1 := nf_ok p1 p2 q1 q2 g pen
  obtain ⟨p', q', s3, e⟩ := rf_while pen 400 99 p q [] .un rfl (by omega) q2 p2
  have ew : mWhile (fun _ _ => 500) (mT (mOp kGt (mVal 1) (mC (.int 0)))) rfBody [.val (.int p), .val (.int q), .own [], .un] pen = _ := e
  show (b_row_of_fraction [.val (.int p), .val (.int q), .un, .un] pen).fin = _
  unfold b_row_of_fraction
  rw [(seq_next (drop_of ((fn2 rfl rfl).trans k1))).trans (seq_next (e2 := [.val (.int p), .val (.int q), .own [], .un]) (q2 := pen) (seto_of (lst_of ac0 (by simp))))]
  by_cases h : (exN 401 p q).length ≤ 400
  · rw [if_pos h] at ew ⊢
    rw [(seq_next ew).trans (ret_of (call_of (acc rfl ac0) (tuple_lst _)))]
    rfl
  · rw [if_neg h] at ew ⊢
    rw [seq_err ew]
    rfl
theorem m_rowfrac_gcd {p q : Int} (p1 : 2 ≤ p) (p2 : p < 10 ^ 60) (q1 : 1 ≤ q) (q2 : q < p) (g : Int.gcd p q ≠ 1) (pen : Pen) : m_row_of_fraction [.int p, .int q] pen = .err (errB "q" (.int q)) pen := by
  have k1 := nf_gcd p1 p2 q1 q2 g pen
  show (b_row_of_fraction [.val (.int p), .val (.int q), .un, .un] pen).fin = _
  unfold b_row_of_fraction
  rw [seq_err (drop_err ((fn2 rfl rfl).trans k1))]
  rfl
/-! the law's own -/
abbrev roBody : SM := (mSeq (mIfS (mT (mOp kEq (mVal 1) (mC (.int 0)))) mBrk mNext)
    (mSeq (mSet (mOp kSub (mC (.int 0)) (mOp kDiv (mOp kSub (mC (.int 0)) (mVal 0)) (mVal 1))) (gNm 4))
    (mSeq (mApp 2 (mVal 4))
    (mPar2 0 1 (sVal (mVal 1) (sVal (mOp kSub (mOp kMul (mVal 4) (mVal 1)) (mVal 0)) sNil))))))
theorem ro_loop (pen : Pen) : ∀ (l : List D) (p q : Int) (F : List Int) (s3 s4 : Slot), F.length + l.length ≤ 900 → 0 ≤ q → q < p → p < 10 ^ 60 → ∃ p' q' s3' s4', loopS (gNm 3) roBody l [.val (.int p), .val (.int q), .own (F.map D.int), s3, s4] pen = .next [.val (.int p'), .val (.int q'), .own ((F ++ exN l.length p q).map D.int), s3', s4'] pen
  | [], p, q, F, s3, s4, _, _, _, _ => ⟨p, q, s3, s4, by
    show _ = Res.next [.val (.int p), .val (.int q), .own ((F ++ []).map D.int), s3, s4] pen
    rw [List.append_nil]
    rfl⟩
  | d :: l, p, q, F, s3, s4, hF, q0, qp, pB => by
    rw [List.length_cons] at hF
    have hg : gNm 3 d [.val (.int p), .val (.int q), .own (F.map D.int), s3, s4] = some [.val (.int p), .val (.int q), .own (F.map D.int), .val d, s4] := rfl
    have t : mT (mOp kEq (mVal 1) (mC (.int 0))) [.val (.int p), .val (.int q), .own (F.map D.int), .val d, s4] pen = .ok (q == 0) pen := t_of (op_of rfl rfl (eq_int _ _))
    by_cases hq : q = 0
    · subst hq
      refine ⟨p, 0, .val d, s4, ?_⟩
      have hb : roBody [.val (.int p), .val (.int 0), .own (F.map D.int), .val d, s4] pen = .brk [.val (.int p), .val (.int 0), .own (F.map D.int), .val d, s4] pen := by
        have h1 : mIfS (mT (mOp kEq (mVal 1) (mC (.int 0)))) mBrk mNext [.val (.int p), .val (.int 0), .own (F.map D.int), .val d, s4] pen = .brk [.val (.int p), .val (.int 0), .own (F.map D.int), .val d, s4] pen := (if_t (tm_to t (by simp))).trans rfl
        show mSeq (mIfS (mT (mOp kEq (mVal 1) (mC (.int 0)))) mBrk mNext) _ _ _ = _
        unfold mSeq
        rw [h1]
      rw [exN_zero, List.append_nil]
      simp only [loopS, hg, hb]
    · have q1 : 0 < q := by omega
      obtain ⟨c1, c2⟩ := clg_spec (p := p) q1
      obtain ⟨p', q', s3', s4', e⟩ := ro_loop pen l q (clg p q * q - p) (F ++ [clg p q]) (.val d) (.val (.int (clg p q))) (by rw [List.length_append, List.length_singleton]; omega) c1 c2 (by omega)
      refine ⟨p', q', s3', s4', ?_⟩
      have d1 := div_pos (0 - p) q1 (p60 q0 (by omega))
      have m1 := mul_q q1 qp pB
      have hb : roBody [.val (.int p), .val (.int q), .own (F.map D.int), .val d, s4] pen = .next [.val (.int q), .val (.int (clg p q * q - p)), .own ((F ++ [clg p q]).map D.int), .val d, .val (.int (clg p q))] pen := by
        have hx : mOp kSub (mC (.int 0)) (mOp kDiv (mOp kSub (mC (.int 0)) (mVal 0)) (mVal 1)) [.val (.int p), .val (.int q), .own (F.map D.int), .val d, s4] pen = .ok (.int (clg p q)) pen := by
          rw [← clg_neg q1]
          exact op_of rfl (op_of (op_of rfl rfl (sub_int _ _)) rfl d1) (sub_int _ _)
        refine (seq_next (if_skip (tm_to t (beq_false_of_ne hq)))).trans ((seq_next (set_of hx rfl)).trans ((seq_next (app_of rfl rfl (by rw [List.length_map]; omega))).trans ?_))
        rw [List.map_append]
        exact par2_of (sval_of rfl rfl (sval_of (op_of (op_of rfl rfl m1) rfl (sub_int _ _)) rfl snil))
      simp only [loopS, hg, hb]
      rw [e, List.append_assoc, List.length_cons, show exN (l.length + 1) p q = clg p q :: exN l.length q (clg p q * q - p) from if_neg hq]
      rfl
theorem m_lrow {p q : Int} (q1 : 0 ≤ q) (q2 : q < p) (p2 : p < 10 ^ 60) (pen : Pen) : m__law_row_of [.int p, .int q] pen = .ok (rowD (exN 500 p q)) pen := by
  obtain ⟨p', q', s3, s4, e⟩ := ro_loop pen ((rgI 500).map D.int) p q [] .un .un (by rw [List.length_map, rgI_len]; decide) q1 q2 p2
  rw [List.length_map, rgI_len] at e
  have ef := (for_of (it := mRng1 (mC (.int 500))) (g := gNm 3) (b := roBody) (rng1_int (n := 500) rfl (by decide) (by decide))).trans e
  show (b__law_row_of [.val (.int p), .val (.int q), .un, .un, .un] pen).fin = _
  unfold b__law_row_of
  rw [(seq_next (e2 := [.val (.int p), .val (.int q), .own [], .un, .un]) (q2 := pen) (seto_of (lst_of ac0 (by simp)))).trans ((seq_next ef).trans (ret_of (call_of (acc rfl ac0) (tuple_lst _))))]
  rfl
end Lw
end Pu
end

section
set_option maxHeartbeats 4000000
namespace Pu
namespace Lw
open PySem PySem.Spec PyProof.Rows L2
/-! #### tables, and told and due alike -/
theorem atN_mem {ns : List Int} {x : Int} (h0 : 0 ≤ x) (h1 : x < ns.length) : atN ns x ∈ ns := by
  unfold atN
  rw [List.getD_eq_getElem?_getD, List.getElem?_eq_getElem (by omega)]
  exact List.getElem_mem _
theorem at_ns {ns : List Int} {x : Int} (h0 : 0 ≤ x) (h1 : x < ns.length) {d : D} (hd : d = .lst (ns.map D.int) ∨ d = .tup (ns.map D.int)) : kIx d (.int x) = some (.int (atN ns x)) := by
  rcases hd with rfl | rfl
  · rw [ix_lst]
    exact atI_ints h0 h1
  · rw [ix_tup]
    exact atI_ints h0 h1
theorem abs_int (i : Int) : kAbs [.int i] = some (.int (i.natAbs : Nat)) := by
  show some (D.int (if i < 0 then -i else i)) = _
  congr 2
  split <;> omega
def tri (ns : List Int) (i k : Int) : Int := if i = k then atN ns i else if (i - k).natAbs = 1 then -1 else 0
def triR (ns : List Int) (i : Int) : D := .tup ((rgI ns.length).map fun k => .int (tri ns i k))
def triD (ns : List Int) : D := .tup ((rgI ns.length).map (triR ns))
theorem cell_ev {env : Env} {q : Pen} {a b r : EM} {ns : List Int} {i k : Int} (i0 : 0 ≤ i) (i1 : i < ns.length) (ha : a env q = .ok (.int i) q) (hb : b env q = .ok (.int k) q) (hr : r env q = .ok (rowD ns) q) : mIf (mT (mOp kEq a b)) (mOp kIx r a) (mIf (mT (mOp kEq (mCall kAbs (aCons (mOp kSub a b) aNil)) (mC (.int 1)))) (mNeg (mC (.int 1))) (mC (.int 0))) env q = .ok (.int (tri ns i k)) q := by
  have t1 : mT (mOp kEq a b) env q = .ok (i == k) q := t_of (op_of ha hb (eq_int _ _))
  have t2 : mT (mOp kEq (mCall kAbs (aCons (mOp kSub a b) aNil)) (mC (.int 1))) env q = .ok (((i - k).natAbs : Int) == 1) q := t_of (op_of (call_of (acc (op_of ha hb (sub_int _ _)) ac0) (abs_int _)) rfl (eq_int _ _))
  unfold tri
  by_cases e : i = k
  · rw [if_pos e]
    exact (ife_t (tm_to t1 (by simp [e]))).trans (op_of hr ha (at_ns i0 i1 (.inr rfl)))
  · rw [if_neg e]
    refine (ife_f (tm_to t1 (beq_false_of_ne e))).trans ?_
    by_cases e2 : (i - k).natAbs = 1
    · rw [if_pos e2]
      exact (ife_t (tm_to t2 (by rw [e2]; rfl))).trans (neg_of rfl)
    · rw [if_neg e2]
      exact (ife_f (tm_to t2 (beq_false_of_ne (by omega)))).trans rfl
abbrev ltBody : SM := (mApp 2 (mCall kTuple (aCons (mFr (mComp (mRng1 (mVal 3)) [5] (gNm 5) tmYes (mIf (mT (mOp kEq (mVal 4) (mVal 5))) (mOp kIx (mVal 1) (mVal 4)) (mIf (mT (mOp kEq (mCall kAbs (aCons (mOp kSub (mVal 4) (mVal 5)) aNil)) (mC (.int 1)))) (mNeg (mC (.int 1))) (mC (.int 0)))))) aNil)))
theorem loop_next {g : GM} {b : SM} {d : D} {ds : List D} {env e1 e2 : Env} {q q2 : Pen} (hg : g d env = some e1) (hb : b e1 q = .next e2 q2) : loopS g b (d :: ds) env q = loopS g b ds e2 q2 := by
  show (match g d env with | none => Res.bad | some env1 => match b env1 q with | .next env2 q => loopS g b ds env2 q | .cnt env2 q => loopS g b ds env2 q | .brk env2 q => .next env2 q | r => r) = _
  rw [hg]
  show (match b e1 q with | .next env2 q => loopS g b ds env2 q | .cnt env2 q => loopS g b ds env2 q | .brk env2 q => .next env2 q | r => r) = _
  rw [hb]
theorem lt_loop {ns : List Int} {T : D} (hl : ns.length ≤ 400) (q : Pen) : ∀ (l : List Int) (F : List D) (s4 : Slot), (∀ x ∈ l, 0 ≤ x ∧ x < ns.length) → F.length + l.length ≤ 900 → ∃ s4', loopS (gNm 4) ltBody (l.map D.int) [.val T, .val (rowD ns), .own F, .val (.int ns.length), s4, .un] q = .next [.val T, .val (rowD ns), .own (F ++ l.map (triR ns)), .val (.int ns.length), s4', .un] q := by
  intro l
  induction l with
  | nil => exact fun F s4 _ _ => ⟨s4, by rw [List.map_nil, List.map_nil, List.append_nil]; rfl⟩
  | cons x l ih =>
    intro F s4 h hF
    rw [List.length_cons] at hF
    obtain ⟨x0, x1⟩ := h x List.mem_cons_self
    obtain ⟨s4', ih⟩ := ih (F ++ [triR ns x]) (.val (.int x)) (fun y hy => h y (List.mem_cons_of_mem _ hy)) (by rw [List.length_append, List.length_singleton]; omega)
    refine ⟨s4', ?_⟩
    have cm : mComp (mRng1 (mVal 3)) [5] (gNm 5) tmYes (mIf (mT (mOp kEq (mVal 4) (mVal 5))) (mOp kIx (mVal 1) (mVal 4)) (mIf (mT (mOp kEq (mCall kAbs (aCons (mOp kSub (mVal 4) (mVal 5)) aNil)) (mC (.int 1)))) (mNeg (mC (.int 1))) (mC (.int 0)))) [.val T, .val (rowD ns), .own F, .val (.int ns.length), .val (.int x), .un] q = .ok ((rgI ns.length).map fun k => .int (tri ns x k)) q := by
      have hr := rng1_int (m := mVal 3) (env := [.val T, .val (rowD ns), .own F, .val (.int ns.length), .val (.int x), .un]) (q := q) (q2 := q) (n := ns.length) rfl (by omega) (by omega)
      rw [Int.toNat_natCast] at hr
      exact comp_ofM D.int _ hr (by rw [rgI_len, sizeLine_eq]; omega) fun k _ => ⟨_, rfl, cell_ev x0 x1 rfl rfl rfl⟩
    have hb : ltBody [.val T, .val (rowD ns), .own F, .val (.int ns.length), .val (.int x), .un] q = .next [.val T, .val (rowD ns), .own (F ++ [triR ns x]), .val (.int ns.length), .val (.int x), .un] q := app_of rfl (call_of (acc (fr_of cm) ac0) (tuple_lst _)) (by omega)
    have hg : gNm 4 (.int x) [.val T, .val (rowD ns), .own F, .val (.int ns.length), s4, .un] = some [.val T, .val (rowD ns), .own F, .val (.int ns.length), .val (.int x), .un] := rfl
    rw [List.map_cons, loop_next hg hb, ih, List.map_cons, List.append_assoc]
    rfl
theorem m_linetab {ns : List Int} (h1 : 1 ≤ ns.length) (h2 : ns.length ≤ 400) (hb : Big ns) (q : Pen) : m_line_table [rowD ns] q = .ok (triD ns) q := by
  have k1 := need_ok (d := rowD ns) (.inr rfl) h1 h2 hb "row" q
  obtain ⟨s4, lp⟩ := lt_loop (T := rowD ns) h2 q (rgI ns.length) [] .un (fun x hx => by have := rgI_mem.mp hx; omega) (by rw [rgI_len, List.length_nil]; omega)
  have hr := rng1_int (m := mVal 3) (env := [.val (rowD ns), .val (rowD ns), .own [], .val (.int ns.length), .un, .un]) (q := q) (q2 := q) (n := ns.length) rfl (by omega) (by omega)
  rw [Int.toNat_natCast] at hr
  show (b_line_table [.val (rowD ns), .un, .un, .un, .un, .un] q).fin = _
  unfold b_line_table
  rw [(seq_next (e2 := [.val (rowD ns), .val (rowD ns), .own [], .un, .un, .un]) (q2 := q) (par2_of (sval_of ((fn2 rfl rfl).trans k1) rfl (sown_of (lst_of ac0 (by simp)) snil)))).trans ((seq_next (e2 := [.val (rowD ns), .val (rowD ns), .own [], .val (.int ns.length), .un, .un]) (q2 := q) (set_of (call_of (z := .int ns.length) (acc rfl ac0) (by show kLen [rowD ns] = _; rw [rowD, len_tup, List.length_map])) rfl)).trans ((seq_next ((for_of hr).trans lp)).trans (ret_of (call_of (acc rfl ac0) (tuple_lst _)))))]
  rfl
theorem is_int (n : Nat) (a : Int) (q : Pen) : m__law_is (n + 1) [.int a, .int a] q = .ok (.bl true) q := by
  have h1 := isi_I (d := .int a) rfl
  have h2 := isi_B (d := .int a) rfl
  have h6 := isi_T2 (d := .int a) rfl
  have h3 : kIs (.int a) (.bl true) = some (.bl false) := rfl
  have h4 : kIs (.int a) (.bl false) = some (.bl false) := rfl
  have h5 : kIs (.int a) .non = some (.bl false) := rfl
  simp -implicitDefEqProofs [mDef, env0, env1, mDefI, mSeq, mSet, mSetO, mIfS, mTAnd, mTOr, mTNot, mT, mV, mIf, mOp, mChain, mCall, mFn, mFCall, mFr, mTup, mLst, aCons, aNil, mVal, mOwn, mC, mNeg, mNext, mRet, mDrop, bind_ok, bind_err, res_ok, res_err, Res.fin, Out.ne, gNm, gTp, gsCons, gsNil, mIt, mRng1, mSl, oNone, oSome, kInt, add_int, len_tup, len_lst, tuple_lst, tuple_tup, mMk, mIn, mFlds, putD, mChk, mDo, mRaise, mApp, mAppPop, mSetIx, mLRg, mRg1, mTRg, mRg2, mPar2, sVal, sOwn, sNil, D.isFn, sizeLine_eq, eq_int, ne_int, wipeE, m__law_is, b__law_is, isi_iS, h1, h2, h3, h4, h5, h6, D.isI, D.isB1, isTp]
theorem is_seq (n : Nat) {ds : List D} (hl : ds.length ≤ 1000) (h : ∀ d ∈ ds, ∀ q, m__law_is n [d, d] q = .ok (.bl true) q) (q : Pen) : m__law_is (n + 1) [.tup ds, .tup ds] q = .ok (.bl true) q := by
  have ta : mT (mCall (kIsi objL exL ask) (aCons (mVal 0) (aCons (mC (.ty "tuple")) aNil))) [.val (.tup ds), .val (.tup ds), .un] q = .ok true q := t_of (call_of (acc rfl (acc rfl ac0)) (isi_T2 (d := .tup ds) rfl))
  have tb : mT (mCall (kIsi objL exL ask) (aCons (mVal 1) (aCons (mC (.ty "tuple")) aNil))) [.val (.tup ds), .val (.tup ds), .un] q = .ok true q := t_of (call_of (acc rfl (acc rfl ac0)) (isi_T2 (d := .tup ds) rfl))
  have t2 : mT (mOp kNe (mCall kLen (aCons (mVal 0) aNil)) (mCall kLen (aCons (mVal 1) aNil))) [.val (.tup ds), .val (.tup ds), .un] q = .ok false q := tm_to (t_of (op_of (call_of (acc rfl ac0) (len_tup _)) (call_of (acc rfl ac0) (len_tup _)) (ne_int _ _))) (by simp)
  have hr := rng1_int (m := mCall kLen (aCons (mVal 1) aNil)) (env := [.val (.tup ds), .val (.tup ds), .un]) (q := q) (q2 := q) (n := ds.length) (call_of (acc rfl ac0) (len_tup _)) (by omega) (by omega)
  have cm : mComp (mRng1 (mCall kLen (aCons (mVal 1) aNil))) [2] (gNm 2) (mTNot (mT (mFn (m__law_is n) (aCons (mOp kIx (mVal 0) (mVal 2)) (aCons (mOp kIx (mVal 1) (mVal 2)) aNil))))) (mVal 2) [.val (.tup ds), .val (.tup ds), .un] q = .ok (((rgI ds.length).filter fun _ => false).map D.int) q := by
    rw [Int.toNat_natCast] at hr
    refine comp_of D.int (fun _ => false) D.int hr (by rw [rgI_len, sizeLine_eq]; omega) fun x hx => ⟨_, rfl, ?_, fun h => by cases h⟩
    have hx := rgI_mem.mp hx
    have ix : kIx (.tup ds) (.int x) = some (ds[x.toNat]'(by omega)) := by
      rw [ix_tup, atI_of _ (by omega) (by omega)]
    exact not_of (t_of ((fn2 (op_of rfl rfl ix) (op_of rfl rfl ix)).trans (h _ (List.getElem_mem _) q)))
  rw [show ((rgI ds.length).filter fun _ => false) = [] by simp, List.map_nil] at cm
  show (b__law_is (m__law_is n) [.val (.tup ds), .val (.tup ds), .un] q).fin = _
  unfold b__law_is
  rw [seq_ret ((if_t tb).trans ((seq_next (if_skip ((or_f (not_of ta)).trans t2))).trans (ret_of (op_of (fr_of cm) rfl (eqE_nil _)))))]
  rfl
theorem is_row (n : Nat) {ns : List Int} (hl : ns.length ≤ 1000) (q : Pen) : m__law_is (n + 2) [rowD ns, rowD ns] q = .ok (.bl true) q := is_seq (n + 1) (by rw [List.length_map]; exact hl) (fun d hd q => by
  obtain ⟨x, _, rfl⟩ := List.mem_map.mp hd
  exact is_int n x q) q
theorem is_tri (n : Nat) {ns : List Int} (hl : ns.length ≤ 1000) (q : Pen) : m__law_is (n + 3) [triD ns, triD ns] q = .ok (.bl true) q := is_seq (n + 2) (by rw [List.length_map, rgI_len]; exact hl) (fun d hd q => by
  obtain ⟨x, _, rfl⟩ := List.mem_map.mp hd
  refine is_seq (n + 1) (by rw [List.length_map, rgI_len]; exact hl) (fun d hd q => ?_) q
  obtain ⟨y, _, rfl⟩ := List.mem_map.mp hd
  exact is_int n _ q) q
end Lw
end Pu
end

section
set_option maxHeartbeats 4000000
namespace Pu
namespace Lw
open PySem PySem.Spec PyProof.Rows L2
/-! #### the determinant of a line's table: no program in sight -/
section
variable {r s : Rat}
theorem m_ltimesD (h1 : Bq 4000 r) (h2 : Bq 4000 s) (q : Pen) : m__law_times [nD r, nD s] q = .ok (nD (r * s)) q := by
  obtain ⟨p1, p2, p3, p4, p5⟩ := prods h1 h2
  obtain ⟨g1, g2⟩ := den_mul h1 h2
  have hne : ((r.den : Int) * s.den) ≠ 0 := by omega
  have low := m_low (t := r.num * s.num) (b := r.den * s.den) hne (gdiv_pos g1 g2) q
  rw [mul_eq r s, ← low_nD hne]
  have k1 := m_lpair (num_nD r) q
  have k2 := m_lpair (num_nD s) q
  generalize nD r = d at *
  generalize nD s = e at *
  generalize (r.den : Int) = b at *
  generalize (s.den : Int) = l at *
  generalize r.num = t at *
  generalize s.num = h at *
  clear h1 h2 g1 g2
  simp -implicitDefEqProofs [mDef, env0, env1, mDefI, mSeq, mSet, mSetO, mIfS, mTAnd, mTOr, mTNot, mT, mV, mIf, mOp, mChain, mCall, mFn, mFCall, mFr, mTup, mLst, aCons, aNil, mVal, mOwn, mC, mNeg, mNext, mRet, mDrop, bind_ok, bind_err, res_ok, res_err, Res.fin, Out.ne, gNm, gTp, gsCons, gsNil, mIt, mRng1, mSl, oNone, oSome, kInt, add_int, len_tup, len_lst, tuple_lst, tuple_tup, mMk, mIn, mFlds, putD, mChk, mDo, mRaise, mApp, mAppPop, mSetIx, mLRg, mRg1, mTRg, mRg2, mPar2, sVal, sOwn, sNil, D.isFn, sizeLine_eq, eq_int, ne_int, wipeE, m__law_times, b__law_times, k1, k2, ix0, ix1, p3, p4, low]
theorem m_loverD (h1 : Bq 4000 r) (h2 : Bq 4000 s) (hs : 0 < s) (q : Pen) : m__law_over [nD r, nD s] q = .ok (nD (r / s)) q := by
  obtain ⟨p1, p2, p3, p4, p5⟩ := prods h1 h2
  have sp : 0 < s.num := by
    have := (Rat.lt_iff 0 s).mp hs
    simpa using this
  have g1 : (0 : Int) < r.den * s.num := Int.mul_pos (den_pos' r) sp
  have g2 : ((r.den : Int) * s.num).natAbs < 2 ^ 8000 := by
    rw [Int.natAbs_mul, Int.natAbs_natCast]
    exact pow_mul_lt h1.2 h2.1
  have hne : ((r.den : Int) * s.num) ≠ 0 := by omega
  have low := m_low (t := r.num * s.den) (b := r.den * s.num) hne (gdiv_pos g1 g2) q
  rw [div_eq r s, ← low_nD hne]
  have k1 := m_lpair (num_nD r) q
  have k2 := m_lpair (num_nD s) q
  generalize nD r = d at *
  generalize nD s = e at *
  generalize (r.den : Int) = b at *
  generalize (s.den : Int) = l at *
  generalize r.num = t at *
  generalize s.num = h at *
  clear h1 h2 g1 g2
  simp -implicitDefEqProofs [mDef, env0, env1, mDefI, mSeq, mSet, mSetO, mIfS, mTAnd, mTOr, mTNot, mT, mV, mIf, mOp, mChain, mCall, mFn, mFCall, mFr, mTup, mLst, aCons, aNil, mVal, mOwn, mC, mNeg, mNext, mRet, mDrop, bind_ok, bind_err, res_ok, res_err, Res.fin, Out.ne, gNm, gTp, gsCons, gsNil, mIt, mRng1, mSl, oNone, oSome, kInt, add_int, len_tup, len_lst, tuple_lst, tuple_tup, mMk, mIn, mFlds, putD, mChk, mDo, mRaise, mApp, mAppPop, mSetIx, mLRg, mRg1, mTRg, mRg2, mPar2, sVal, sOwn, sNil, D.isFn, sizeLine_eq, eq_int, ne_int, wipeE, m__law_over, b__law_over, k1, k2, ix0, ix1, p1, p5, low]
end
def aN (ns : List Int) (c : Nat) : Int := frP (ns.take c)
theorem take_s (ns : List Int) {c : Nat} (h : c < ns.length) : ns.take (c + 1) = ns.take c ++ [atN ns c] := by
  rw [List.take_succ, List.getElem?_eq_getElem h]
  unfold atN
  rw [Int.toNat_natCast, List.getD_eq_getElem?_getD, List.getElem?_eq_getElem h]
  rfl
theorem aN_0 (ns : List Int) : aN ns 0 = 1 := rfl
theorem aN_1 {ns : List Int} (h : 0 < ns.length) : aN ns 1 = atN ns 0 := by
  unfold aN
  rw [take_s ns h]
  show frP [atN ns 0] = _
  exact (last_frac _).1
theorem aN_2 {ns : List Int} {c : Nat} (h : c + 1 < ns.length) : aN ns (c + 2) = aN ns (c + 1) * atN ns (c + 1 : Nat) - aN ns c := by
  unfold aN frP
  rw [take_s ns h, mt_app, take_s ns (show c < ns.length by omega), mt_app]
  show ((mt (ns.take c)).1 * atN ns c + (mt (ns.take c)).2.1) * atN ns (c + 1 : Nat) + -(mt (ns.take c)).1 = ((mt (ns.take c)).1 * atN ns c + (mt (ns.take c)).2.1) * atN ns (c + 1 : Nat) - (mt (ns.take c)).1
  omega
theorem big_take {ns : List Int} (h : Big ns) (c : Nat) : Big (ns.take c) := fun x hx => h x (List.mem_of_mem_take hx)
theorem aN_pos {ns : List Int} (h : Big ns) (c : Nat) : 0 < aN ns c := by
  obtain ⟨h1, h2⟩ := fr_pos (big_take h c)
  unfold aN
  omega
theorem aN_sz {ns : List Int} (h : Big ns) (hl : ns.length ≤ 7) (hs : ∀ x ∈ ns, x.natAbs < 2 ^ 41) (c : Nat) : (aN ns c).natAbs < 2 ^ 288 := by
  have := fr_size (B := 41) (big_take h c) fun x hx => hs x (List.mem_of_mem_take hx)
  unfold aN
  refine Nat.lt_of_lt_of_le this (Nat.pow_le_pow_right (by decide) ?_)
  have : (ns.take c).length ≤ 7 := by rw [List.length_take]; omega
  omega
def ddQ (ns : List Int) (c : Nat) : Rat := (aN ns (c + 1) : Rat) / (aN ns c : Rat)
theorem rpos {z : Int} (h : 0 < z) : (0 : Rat) < (z : Rat) := Rat.intCast_pos.mpr h
theorem dd_pos {ns : List Int} (h : Big ns) (c : Nat) : 0 < ddQ ns c := by
  have h1 := rpos (aN_pos h (c + 1))
  have h2 := rpos (aN_pos h c)
  have := Rat.mul_pos h1 (Rat.inv_pos.mpr h2)
  unfold ddQ
  rw [Rat.div_def]
  exact this
theorem dd_bq {ns : List Int} (h : Big ns) (hl : ns.length ≤ 7) (hs : ∀ x ∈ ns, x.natAbs < 2 ^ 41) (c : Nat) : Bq 300 (ddQ ns c) := (bq_frac (k := 288) (aN_pos h c) (aN_sz h hl hs _) (aN_sz h hl hs _) rfl).mono (by decide)
theorem dd_0 {ns : List Int} (h : 0 < ns.length) : ddQ ns 0 = (atN ns 0 : Rat) := by
  unfold ddQ
  rw [aN_0, aN_1 h, show ((1 : Int) : Rat) = 1 from rfl]
  grind
theorem dd_s {ns : List Int} (hb : Big ns) {c : Nat} (h : c + 1 < ns.length) : ddQ ns (c + 1) = (atN ns (c + 1 : Nat) : Rat) - 1 / ddQ ns c := by
  have h1 := rpos (aN_pos hb (c + 1))
  have h2 := rpos (aN_pos hb c)
  unfold ddQ
  rw [aN_2 h, Rat.intCast_sub, Rat.intCast_mul]
  generalize (aN ns (c + 1) : Rat) = x at *
  generalize (aN ns c : Rat) = y at *
  generalize (atN ns (c + 1 : Nat) : Rat) = z at *
  have n1 : x ≠ 0 := by grind
  have n2 : y ≠ 0 := by grind
  clear h1 h2
  grind
theorem dd_mul {ns : List Int} (hb : Big ns) (c : Nat) : (aN ns c : Rat) * ddQ ns c = (aN ns (c + 1) : Rat) := by
  have h2 := rpos (aN_pos hb c)
  unfold ddQ
  generalize (aN ns (c + 1) : Rat) = x at *
  generalize (aN ns c : Rat) = y at *
  have n2 : y ≠ 0 := by grind
  clear h2
  grind
/-- the table when so many columns are done -/
def gM (ns : List Int) (c i j : Nat) : Rat := if j < min i c then 0 else if i = j then (if i ≤ c then ddQ ns i else (atN ns i : Rat)) else if i + 1 = j ∨ j + 1 = i then -1 else 0
section
variable {ns : List Int} {c i j : Nat}
theorem gM_z (h : j < min i c) : gM ns c i j = 0 := if_pos h
theorem gM_d (h : i ≤ c) : gM ns c i i = ddQ ns i := by
  unfold gM
  rw [if_neg (by omega), if_pos rfl, if_pos h]
theorem gM_x (h : c < i) : gM ns c i i = (atN ns i : Rat) := by
  unfold gM
  rw [if_neg (by omega), if_pos rfl, if_neg (by omega)]
theorem gM_a (h : ¬ j < min i c) (h2 : i + 1 = j ∨ j + 1 = i) : gM ns c i j = -1 := by
  unfold gM
  rw [if_neg h, if_neg (by omega), if_pos h2]
theorem gM_f (h : i ≠ j) (h2 : ¬(i + 1 = j ∨ j + 1 = i)) : gM ns c i j = 0 := by
  unfold gM
  rw [if_neg h, if_neg h2]
  split <;> rfl
end
theorem gM_0 {ns : List Int} {i j : Nat} (h : 0 < ns.length) : gM ns 0 i j = (tri ns i j : Rat) := by
  unfold tri
  by_cases e : i = j
  · subst e
    rw [if_pos rfl]
    by_cases e2 : i = 0
    · subst e2
      rw [gM_d (Nat.le_refl _), dd_0 h]
      rfl
    · rw [gM_x (by omega)]
  · rw [if_neg (show ¬ (i : Int) = j by omega)]
    by_cases e2 : i + 1 = j ∨ j + 1 = i
    · rw [gM_a (by omega) e2, if_pos (by omega)]
      rfl
    · rw [gM_f e e2, if_neg (by omega)]
      rfl
theorem gM_low {ns : List Int} {c i j : Nat} (h : i ≤ c) : gM ns (c + 1) i j = gM ns c i j := by
  unfold gM
  rw [show min i (c + 1) = min i c by omega]
  by_cases e : i = j
  · rw [if_pos (show i ≤ c + 1 by omega), if_pos h]
  · rw [if_neg e, if_neg e]
theorem gM_step {ns : List Int} (hb : Big ns) {c k j : Nat} (hk : c < k) (hl : k < ns.length) : gM ns (c + 1) k j = gM ns c k j - gM ns c k c / gM ns c c c * gM ns c c j := by
  have d0 := dd_pos hb c
  rw [gM_d (ns := ns) (Nat.le_refl c)]
  by_cases e : k = c + 1
  · subst e
    rw [gM_a (ns := ns) (c := c) (i := c + 1) (j := c) (by omega) (.inr rfl)]
    have ds := dd_s hb hl
    by_cases j1 : j < c
    · rw [gM_z (c := c + 1) (by omega), gM_z (i := c + 1) (c := c) (by omega), gM_z (i := c) (by omega)]
      grind
    · by_cases j2 : j = c
      · subst j2
        rw [gM_z (by omega), gM_a (c := j) (i := j + 1) (by omega) (.inr rfl), gM_d (Nat.le_refl _)]
        generalize ddQ ns j = d at *
        have hd : d ≠ 0 := by grind
        clear d0 ds
        grind
      · by_cases j3 : j = c + 1
        · subst j3
          rw [gM_d (Nat.le_refl _), gM_x (by omega), gM_a (c := c) (i := c) (by omega) (.inl rfl), ds]
          generalize ddQ ns c = d at *
          have hd : d ≠ 0 := by grind
          clear d0 ds
          grind
        · by_cases j4 : j = c + 2
          · subst j4
            rw [gM_a (by omega) (.inl rfl), gM_a (i := c + 1) (c := c) (by omega) (.inl rfl), gM_f (i := c) (by omega) (by omega)]
            grind
          · rw [gM_f (c := c + 1) (by omega) (by omega), gM_f (i := c + 1) (c := c) (by omega) (by omega), gM_f (i := c) (by omega) (by omega)]
            grind
  · rw [gM_f (ns := ns) (c := c) (i := k) (j := c) (by omega) (by omega)]
    have e2 : gM ns (c + 1) k j = gM ns c k j := by
      by_cases j1 : j < c
      · rw [gM_z (by omega), gM_z (by omega)]
      · by_cases j2 : j = c
        · subst j2
          rw [gM_z (by omega), gM_f (by omega) (by omega)]
        · by_cases j3 : k = j
          · subst j3
            rw [gM_x (by omega), gM_x (by omega)]
          · by_cases j4 : k + 1 = j ∨ j + 1 = k
            · rw [gM_a (by omega) j4, gM_a (by omega) j4]
            · rw [gM_f j3 j4, gM_f j3 j4]
    rw [e2]
    generalize ddQ ns c = d at *
    have hd : d ≠ 0 := by grind
    clear d0 e2
    grind
theorem gM_bq {ns : List Int} (hb : Big ns) (hl : ns.length ≤ 7) (hs : ∀ x ∈ ns, x.natAbs < 2 ^ 41) {c i j : Nat} (hi : i < ns.length) : Bq 300 (gM ns c i j) := by
  have b0 : Bq 300 (0 : Rat) := bq_int (i := 0) (Nat.pow_pos (by decide)) (by decide)
  have b1 : Bq 300 (-1 : Rat) := (bq_int (k := 1) (i := -1) (by decide) (by decide)).mono (by decide)
  unfold gM
  split
  · exact b0
  · split
    · split
      · exact dd_bq hb hl hs _
      · exact (bq_int (hs _ (atN_mem (by omega) (by omega))) (by decide)).mono (by decide)
    · split
      · exact b1
      · exact b0
end Lw
end Pu
end

section
set_option maxHeartbeats 4000000
namespace Pu
namespace Lw
open PySem PySem.Spec PyProof.Rows L2
def rowQ (w : Nat) (f : Nat → Rat) : D := .lst ((List.range w).map fun j => nD (f j))
def rowsQ (n w : Nat) (A : Nat → Nat → Rat) : List D := (List.range n).map fun i => rowQ w (A i)
theorem rgI_map (n : Nat) : (rgI n).map D.int = (List.range n).map fun i : Nat => D.int i := by
  unfold rgI
  rw [List.map_map]
  rfl
theorem rowQ_ix {w : Nat} {f : Nat → Rat} {j : Nat} (h : j < w) : kIx (rowQ w f) (.int j) = some (nD (f j)) := by
  show kIx (.lst _) _ = _
  rw [ix_lst, atI_of _ (by omega) (by rw [List.length_map, List.length_range]; omega), List.getElem_map, List.getElem_range]
  rfl
theorem rowsQ_ix {n w : Nat} {A : Nat → Nat → Rat} {i : Nat} (h : i < n) : kIx (.lst (rowsQ n w A)) (.int i) = some (rowQ w (A i)) := by
  rw [ix_lst, atI_of _ (by omega) (by rw [rowsQ, List.length_map, List.length_range]; omega)]
  unfold rowsQ
  rw [List.getElem_map, List.getElem_range]
  rfl
theorem rowsQ_len (n w : Nat) (A : Nat → Nat → Rat) : (rowsQ n w A).length = n := by rw [rowsQ, List.length_map, List.length_range]
theorem rowQ_congr {w : Nat} {f g : Nat → Rat} (h : ∀ j, j < w → f j = g j) : rowQ w f = rowQ w g := by
  unfold rowQ
  congr 1
  refine List.map_congr_left fun j hj => ?_
  rw [h j (List.mem_range.mp hj)]
theorem rowsQ_congr {n w : Nat} {A B : Nat → Nat → Rat} (h : ∀ i j, i < n → j < w → A i j = B i j) : rowsQ n w A = rowsQ n w B := by
  unfold rowsQ
  refine List.map_congr_left fun i hi => ?_
  exact rowQ_congr fun j hj => h i j (List.mem_range.mp hi) hj
theorem rowsQ_set {n w : Nat} {A : Nat → Nat → Rat} {i : Nat} (f : Nat → Rat) : (rowsQ n w A).set i (rowQ w f) = rowsQ n w fun x => if x = i then f else A x := by
  unfold rowsQ
  apply List.ext_getElem
  · rw [List.length_set, List.length_map, List.length_map]
  · intro k h1 h2
    rw [List.getElem_set, List.getElem_map, List.getElem_map, List.getElem_range]
    show _ = rowQ w (if k = i then f else A k)
    by_cases e : i = k
    · rw [if_pos e, if_pos e.symm]
    · rw [if_neg e, if_neg (fun z : k = i => e z.symm)]
theorem num_zero {r : Rat} : (r.num = 0 ∧ (r.den : Int) = 1) ↔ r = 0 := by
  constructor
  · intro h
    rw [den1_int (r := r) (by omega), h.1]
    rfl
  · intro h
    rw [h]
    exact ⟨rfl, rfl⟩
theorem ne_num {d : D} {t b : Int} (n : Num d t b) : kNe d (.int 0) = some (.bl (!decide (t = 0 ∧ b = 1))) := by
  cases n with
  | int t =>
    rw [ne_int]
    by_cases c : t = 0 <;> simp [c]
  | fr hb g =>
    have hb1 : ¬ b = 1 := by omega
    unfold kNe
    simp [D.py, D.pys, SeqAt.shaped, PyData.eqv, PyData.canLay0, PyData.canLayAll0, PyData.depth, PyData.depthAll, hb1]
theorem ne_0 (r : Rat) : kNe (nD r) (.int 0) = some (.bl (!decide (r = 0))) := by
  rw [ne_num (num_nD r)]
  congr 3
  exact decide_eq_decide.mpr num_zero
theorem bs_nD (r : Rat) : (nD r).bs = true := bs_num (num_nD r)
theorem zip_maps {α : Type} (f g : α → D) (l : List α) : zipD (l.map f) (l.map g) = l.map fun x => .tup [f x, g x] := by
  unfold zipD
  rw [List.zip_map', List.map_map]
  rfl
section
variable {env : Env} {q q1 q2 q3 : Pen} {d e z : D} {ds : List D} {a b : EM} {r : AM}
theorem setixD {i : Nat} {k : Nat} (hb : b env q = .ok d q1) (h : env[i]? = some (.own ds)) (ha : a env q1 = .ok (.int k) q2) (h1 : k < ds.length) : mSetIx i a b env q = .next (env.set i (.own (ds.set k d))) q2 := by
  unfold mSetIx
  rw [hb, res_ok, h]
  show (a env q1).res env _ = _
  rw [ha, res_ok]
  show (match ixN ds.length (k : Int) with | some j => Res.next (env.set i (.own (ds.set j d))) q2 | none => Res.bad) = _
  rw [ixN_in (by omega) (by omega)]
  rfl
theorem zip_lst {xs ys : List D} (h : a env q = .ok (.lst xs) q1) (h2 : b env q1 = .ok (.lst ys) q2) : mZip (aCons a (aCons b aNil)) env q = .ok (zipD xs ys) q2 := by
  unfold mZip
  rw [acc h (acc h2 ac0), bind_ok]
  rfl
end
/-! #### the determinant, walked -/
abbrev wRow : SM := (mSeq (mSet (mFn m__law_over (aCons (mOp kIx (mOp kIx (mOwn 1) (mVal 6)) (mVal 4)) (aCons (mOp kIx (mOp kIx (mOwn 1) (mVal 4)) (mVal 4)) aNil))) (gNm 7))
    (mSetIx 1 (mVal 6) (mFr (mComp (mZip (aCons (mOp kIx (mOwn 1) (mVal 6)) (aCons (mOp kIx (mOwn 1) (mVal 4)) aNil))) [8, 9] (gTp (gsCons (gNm 8) (gsCons (gNm 9) gsNil))) tmYes (mFn m__law_minus (aCons (mVal 8) (aCons (mFn m__law_times (aCons (mVal 7) (aCons (mVal 9) aNil))) aNil)))))))
abbrev wFor : SM := mFor (mRng2 (mOp kAdd (mVal 4) (mC (.int 1))) (mCall kLen (aCons (mOwn 1) aNil))) (gNm 6) wRow
abbrev wTail : SM := (mSeq (mIfS (mT (mOp kEqE (mVal 5) (mFr (mLst aNil)))) (mRet (mC (.int 0))) mNext)
    (mSeq (mIfS (mT (mOp kNe (mOp kIx (mVal 5) (mC (.int 0))) (mVal 4))) (mSeq (mSetX (mTup (aCons (mOp kIx (mOwn 1) (mOp kIx (mVal 5) (mC (.int 0)))) (aCons (mOp kIx (mOwn 1) (mVal 4)) aNil))) (xTp 2 (xsCons (xIx 1 (mVal 4)) (xsCons (xIx 1 (mOp kIx (mVal 5) (mC (.int 0)))) xsNil))))
    (mSet (mFn m__law_opposite (aCons (mVal 2) aNil)) (gNm 2))) mNext)
    (mSeq (mSet (mFn m__law_times (aCons (mVal 2) (aCons (mOp kIx (mOp kIx (mOwn 1) (mVal 4)) (mVal 4)) aNil))) (gNm 2)) wFor)))
abbrev wBody : SM := (mSeq (mSetO (mComp (mRng2 (mVal 4) (mCall kLen (aCons (mOwn 1) aNil))) [6] (gNm 6) (mT (mOp kNe (mOp kIx (mOp kIx (mOwn 1) (mVal 6)) (mVal 4)) (mC (.int 0)))) (mVal 6)) 5)
    (mFrzS 5 wTail))
def mA (ns : List Int) (c x i j : Nat) : Rat := if i < c + 1 + x then gM ns (c + 1) i j else gM ns c i j
section
variable {ns : List Int} {n c : Nat} {T : D}
theorem w_row (hb : Big ns) (hn : ns.length = n) (hl : n ≤ 7) (hs : ∀ x ∈ ns, x.natAbs < 2 ^ 41) {x : Nat} (hx : c + 1 + x < n) (s2 s3 s5 s7 s8 s9 : Slot) (q : Pen) : ∃ s7', wRow [.val T, .own (rowsQ n n (mA ns c x)), s2, s3, .val (.int c), s5, .val (.int (c + 1 + x : Nat)), s7, s8, s9] q = .next [.val T, .own (rowsQ n n (mA ns c (x + 1))), s2, s3, .val (.int c), s5, .val (.int (c + 1 + x : Nat)), s7', s8, s9] q := by
  have hc : c < n := by omega
  have ek : mA ns c x (c + 1 + x) = gM ns c (c + 1 + x) := by
    funext j
    exact if_neg (by omega)
  have ec : mA ns c x c = gM ns c c := by
    funext j
    exact (if_pos (by omega)).trans (gM_low (Nat.le_refl _))
  let E : Slot → Env := fun s7 => [.val T, .own (rowsQ n n (mA ns c x)), s2, s3, .val (.int c), s5, .val (.int (c + 1 + x : Nat)), s7, s8, s9]
  have r1 : ∀ s7, mOp kIx (mOwn 1) (mVal 6) (E s7) q = .ok (rowQ n (gM ns c (c + 1 + x))) q := fun s7 => op_of rfl rfl ((rowsQ_ix hx).trans (by rw [ek]))
  have r2 : ∀ s7, mOp kIx (mOwn 1) (mVal 4) (E s7) q = .ok (rowQ n (gM ns c c)) q := fun s7 => op_of rfl rfl ((rowsQ_ix hc).trans (by rw [ec]))
  have r3 : mOp kIx (mOp kIx (mOwn 1) (mVal 6)) (mVal 4) (E s7) q = .ok (nD (gM ns c (c + 1 + x) c)) q := op_of (r1 _) rfl (rowQ_ix hc)
  have r4 : mOp kIx (mOp kIx (mOwn 1) (mVal 4)) (mVal 4) (E s7) q = .ok (nD (gM ns c c c)) q := op_of (r2 _) rfl (rowQ_ix hc)
  have b1 : Bq 300 (gM ns c (c + 1 + x) c) := gM_bq hb (by omega) hs (by omega)
  have b2 : Bq 300 (gM ns c c c) := gM_bq hb (by omega) hs (by omega)
  have pp : 0 < gM ns c c c := by
    rw [gM_d (Nat.le_refl _)]
    exact dd_pos hb c
  have k1 := m_loverD (b1.mono (show 300 ≤ 4000 by decide)) (b2.mono (show 300 ≤ 4000 by decide)) pp q
  have bby : Bq 600 (gM ns c (c + 1 + x) c / gM ns c c c) := by
    have sp : 0 < (gM ns c c c).num := by
      have := (Rat.lt_iff 0 _).mp pp
      simpa using this
    refine bq_frac (Int.mul_pos (den_pos' _) sp) ?_ ?_ (div_eq _ _)
    · rw [Int.natAbs_mul, Int.natAbs_natCast]
      exact pow_mul_lt (k := 300) (l := 300) b1.1 b2.2
    · rw [Int.natAbs_mul, Int.natAbs_natCast]
      exact pow_mul_lt (k := 300) (l := 300) b1.2 b2.1
  refine ⟨.val (nD (gM ns c (c + 1 + x) c / gM ns c c c)), ?_⟩
  have e1 : mSet (mFn m__law_over (aCons (mOp kIx (mOp kIx (mOwn 1) (mVal 6)) (mVal 4)) (aCons (mOp kIx (mOp kIx (mOwn 1) (mVal 4)) (mVal 4)) aNil))) (gNm 7) (E s7) q = .next (E (.val (nD (gM ns c (c + 1 + x) c / gM ns c c c)))) q := set_of ((fn2 r3 r4).trans k1) rfl
  refine (seq_next e1).trans ?_
  have r5 := zip_lst (r1 (.val (nD (gM ns c (c + 1 + x) c / gM ns c c c)))) (r2 (.val (nD (gM ns c (c + 1 + x) c / gM ns c c c))))
  rw [zip_maps] at r5
  have cm : mComp (mZip (aCons (mOp kIx (mOwn 1) (mVal 6)) (aCons (mOp kIx (mOwn 1) (mVal 4)) aNil))) [8, 9] (gTp (gsCons (gNm 8) (gsCons (gNm 9) gsNil))) tmYes (mFn m__law_minus (aCons (mVal 8) (aCons (mFn m__law_times (aCons (mVal 7) (aCons (mVal 9) aNil))) aNil))) (E (.val (nD (gM ns c (c + 1 + x) c / gM ns c c c)))) q = .ok ((List.range n).map fun j => nD (gM ns (c + 1) (c + 1 + x) j)) q := by
    refine comp_ofM (fun j => D.tup [nD (gM ns c (c + 1 + x) j), nD (gM ns c c j)]) _ r5 (by rw [List.length_range, sizeLine_eq]; omega) fun j hj => ⟨_, rfl, ?_⟩
    have b3 : Bq 300 (gM ns c c j) := gM_bq hb (by omega) hs (by omega)
    have b4 : Bq 300 (gM ns c (c + 1 + x) j) := gM_bq hb (by omega) hs (by omega)
    have k3 := m_ltimesD (bby.mono (show 600 ≤ 4000 by decide)) (b3.mono (show 300 ≤ 4000 by decide)) q
    have k4 := m_lminusD (b4.mono (show 300 ≤ 4000 by decide)) ((bq_mul bby b3).mono (show 600 + 300 ≤ 4000 by decide)) q
    rw [gM_step hb (show c < c + 1 + x by omega) (by omega)]
    exact (fn2 rfl ((fn2 rfl rfl).trans k3)).trans k4
  refine (setixD (fr_of cm) rfl rfl (by rw [rowsQ_len]; exact hx)).trans ?_
  have e6 : (rowsQ n n (mA ns c x)).set (c + 1 + x) (.lst ((List.range n).map fun j => nD (gM ns (c + 1) (c + 1 + x) j))) = rowsQ n n (mA ns c (x + 1)) := by
    refine (rowsQ_set (gM ns (c + 1) (c + 1 + x))).trans (rowsQ_congr fun i j _ _ => ?_)
    unfold mA
    by_cases z : i = c + 1 + x
    · subst z
      rw [if_pos rfl, if_pos (by omega)]
    · rw [if_neg z]
      by_cases z2 : i < c + 1 + x
      · rw [if_pos z2, if_pos (by omega)]
      · rw [if_neg z2, if_neg (by omega)]
  rw [e6]
  rfl
theorem w_col (hb : Big ns) (hn : ns.length = n) (hl : n ≤ 7) (hs : ∀ x ∈ ns, x.natAbs < 2 ^ 41) (hc : c < n) (s3 s5 s6 s7 s8 s9 : Slot) (q : Pen) : ∃ s5' s6' s7', wBody [.val T, .own (rowsQ n n (gM ns c)), .val (.int (aN ns c)), s3, .val (.int c), s5, s6, s7, s8, s9] q = .next [.val T, .own (rowsQ n n (gM ns (c + 1))), .val (.int (aN ns (c + 1))), s3, .val (.int c), s5', s6', s7', s8, s9] q := by
  have pp : 0 < gM ns c c c := by
    rw [gM_d (Nat.le_refl _)]
    exact dd_pos hb c
  have pne : gM ns c c c ≠ 0 := by
    generalize gM ns c c c = z at *
    grind
  let E : Slot → Env := fun s5 => [.val T, .own (rowsQ n n (gM ns c)), .val (.int (aN ns c)), s3, .val (.int c), s5, s6, s7, s8, s9]
  have lw : kLen [.lst (rowsQ n n (gM ns c))] = some (.int n) := by rw [len_lst, rowsQ_len]
  have cm : mComp (mRng2 (mVal 4) (mCall kLen (aCons (mOwn 1) aNil))) [6] (gNm 6) (mT (mOp kNe (mOp kIx (mOp kIx (mOwn 1) (mVal 6)) (mVal 4)) (mC (.int 0)))) (mVal 6) (E s5) q = .ok (((rgF c ((n : Int) - c).toNat).filter fun x : Int => !decide (gM ns c x.toNat c = 0)).map D.int) q := by
    refine comp_of D.int _ D.int (rng2_int (a := c) (b := n) rfl (call_of (acc rfl ac0) lw) (by omega) (by omega) (by omega) (by omega)) (by rw [rgF_len, sizeLine_eq]; omega) fun x hx => ?_
    have hx := rgF_mem.mp hx
    obtain ⟨x, rfl⟩ := Int.eq_ofNat_of_zero_le (show 0 ≤ x by omega)
    have hxn : x < n := by omega
    exact ⟨_, rfl, t_of (op_of (op_of (op_of rfl rfl (rowsQ_ix hxn)) rfl (rowQ_ix hc)) rfl (ne_0 _)), fun _ => rfl⟩
  have e : ((rgF c ((n : Int) - c).toNat).filter fun x : Int => !decide (gM ns c x.toNat c = 0)) = (c : Int) :: ((rgF (c + 1) ((n : Int) - c - 1).toNat).filter fun x : Int => !decide (gM ns c x.toNat c = 0)) := by
    rw [show ((n : Int) - c).toNat = ((n : Int) - c - 1).toNat + 1 by omega, rgF_succ, List.filter_cons, if_pos]
    rw [Int.toNat_natCast]
    simp [pne]
  rw [e] at cm
  generalize ((rgF (c + 1) ((n : Int) - c - 1).toNat).filter fun x : Int => !decide (gM ns c x.toNat c = 0)) = rest at *
  let H : D := .lst (((c : Int) :: rest).map D.int)
  have t1 : mT (mOp kEqE (mVal 5) (mFr (mLst aNil))) (E (.val H)) q = .ok false q := t_of (op_of rfl rfl (eqE_nil _))
  have ih0 : kIx H (.int 0) = some (.int c) := by
    show kIx (.lst _) _ = _
    rw [ix_lst, atI_of _ (by decide) (by simp)]
    rfl
  have t2 : mT (mOp kNe (mOp kIx (mVal 5) (mC (.int 0))) (mVal 4)) (E (.val H)) q = .ok false q := tm_to (t_of (op_of (op_of rfl rfl ih0) rfl (ne_int _ _))) (by simp)
  have r4 : mOp kIx (mOp kIx (mOwn 1) (mVal 4)) (mVal 4) (E (.val H)) q = .ok (nD (gM ns c c c)) q := op_of (op_of rfl rfl (rowsQ_ix hc)) rfl (rowQ_ix hc)
  have ba : Bq 300 ((aN ns c : Int) : Rat) := (bq_int (k := 288) (aN_sz hb (by omega) hs c) (by decide)).mono (by decide)
  have b2 : Bq 300 (gM ns c c c) := gM_bq hb (by omega) hs (by omega)
  have k1 := m_ltimesD (ba.mono (show 300 ≤ 4000 by decide)) (b2.mono (show 300 ≤ 4000 by decide)) q
  rw [gM_d (Nat.le_refl _), dd_mul hb c, nD_int, nD_int, ← gM_d (ns := ns) (Nat.le_refl c)] at k1
  let E2 : Slot → Slot → D → Env := fun s6 s7 W => [.val T, .own (rowsQ n n (gM ns c)), .val (.int (aN ns (c + 1))), s3, .val (.int c), .val W, s6, s7, s8, s9]
  have e3 : mSet (mFn m__law_times (aCons (mVal 2) (aCons (mOp kIx (mOp kIx (mOwn 1) (mVal 4)) (mVal 4)) aNil))) (gNm 2) (E (.val H)) q = .next (E2 s6 s7 H) q := set_of ((fn2 rfl r4).trans k1) rfl
  have em : rowsQ n n (gM ns c) = rowsQ n n (mA ns c 0) := rowsQ_congr fun i j _ _ => by
    unfold mA
    by_cases z : i < c + 1 + 0
    · rw [if_pos z, gM_low (by omega)]
    · rw [if_neg z]
  let I : Nat → Env → Pen → Prop := fun x env q' => q' = q ∧ ∃ s6 s7, env = [.val T, .own (rowsQ n n (mA ns c x)), .val (.int (aN ns (c + 1))), s3, .val (.int c), .val H, s6, s7, s8, s9]
  obtain ⟨e6, q6, h6, rfl, s6', s7', rfl⟩ := loop_inv (g := gNm 6) (b := wRow) (fun x : Nat => D.int (c + 1 + x : Nat)) I (List.range (n - c - 1)) 0 (E2 s6 s7 H) q ⟨rfl, s6, s7, by show E2 s6 s7 H = _; rw [← em]⟩ fun x hx env q' ⟨hq, t6, t7, he⟩ => by
    subst hq he
    rw [List.length_range] at hx
    obtain ⟨u7, hr⟩ := w_row (T := T) (c := c) hb hn hl hs (x := x) (by omega) (.val (.int (aN ns (c + 1)))) s3 (.val H) t7 s8 s9 q'
    refine ⟨_, rfl, _, q', .inl ?_, rfl, .val (.int (c + 1 + x : Nat)), u7, rfl⟩
    rw [List.getElem_range, Nat.zero_add]
    exact hr
  rw [List.length_range, Nat.zero_add] at h6
  have ef : rowsQ n n (mA ns c (n - c - 1)) = rowsQ n n (gM ns (c + 1)) := rowsQ_congr fun i j hi _ => if_pos (by omega)
  rw [ef] at h6
  refine ⟨.val H, s6', s7', (seq_next (seto_of cm)).trans ?_⟩
  show wTail (E (.val H)) q6 = _
  refine (seq_next (if_skip t1)).trans ((seq_next (if_skip t2)).trans ((seq_next e3).trans ?_))
  refine (for_of (ds := (List.range (n - c - 1)).map fun x : Nat => D.int (c + 1 + x : Nat)) ?_).trans h6
  have hr := rng2_int (m := mOp kAdd (mVal 4) (mC (.int 1))) (m2 := mCall kLen (aCons (mOwn 1) aNil)) (env := E2 s6 s7 H) (q := q6) (q2 := q6) (q3 := q6) (a := c + 1) (b := n) (op_of rfl rfl (add_int _ _)) (call_of (acc rfl ac0) lw) (by omega) (by omega) (by omega) (by omega)
  have eL : (rgF ((c : Int) + 1) ((n : Int) - (c + 1)).toNat).map D.int = (List.range (n - c - 1)).map fun x : Nat => D.int (c + 1 + x : Nat) := by
    unfold rgF
    rw [List.map_map, show ((n : Int) - (c + 1)).toNat = n - c - 1 by omega]
    refine List.map_congr_left fun x _ => ?_
    show D.int ((c : Int) + 1 + x) = D.int ((c + 1 + x : Nat) : Int)
    rw [show ((c + 1 + x : Nat) : Int) = (c : Int) + 1 + x by omega]
  rw [eL] at hr
  exact hr
theorem tri_rows (hn : ns.length = n) (h0 : 0 < n) : (List.range n).map (fun i : Nat => D.lst ((rgI ns.length).map fun k => .int (tri ns i k))) = rowsQ n n (gM ns 0) := by
  refine List.map_congr_left fun i _ => ?_
  show D.lst _ = D.lst _
  congr 1
  rw [hn]
  unfold rgI
  rw [List.map_map]
  refine List.map_congr_left fun k _ => ?_
  rw [gM_0 (by omega), nD_int]
  rfl
theorem m_worth (hb : Big ns) (hn : ns.length = n) (h0 : 0 < n) (hl : n ≤ 7) (hs : ∀ x ∈ ns, x.natAbs < 2 ^ 41) (q : Pen) : m__law_worth [.lst (rowsQ n n (gM ns 0))] q = .ok (.int (frP ns)) q := by
  have c0 : mComp (mIt (mVal 0)) [3] (gNm 3) tmYes (mFr (mFCall kList (aCons (mVal 3) aNil))) [.val (.lst (rowsQ n n (gM ns 0))), .un, .un, .un, .un, .un, .un, .un, .un, .un] q = .ok (rowsQ n n (gM ns 0)) q := comp_ofM (fun i => rowQ n (gM ns 0 i)) (fun i => rowQ n (gM ns 0 i)) (mit_lst rfl) (by rw [List.length_range, sizeLine_eq]; omega) fun i _ => ⟨_, rfl, fr_of (fcall_of (acc rfl ac0) rfl)⟩
  have e1 : mPar2 1 2 (sOwn (mComp (mIt (mVal 0)) [3] (gNm 3) tmYes (mFr (mFCall kList (aCons (mVal 3) aNil)))) (sVal (mC (.int 1)) sNil)) [.val (.lst (rowsQ n n (gM ns 0))), .un, .un, .un, .un, .un, .un, .un, .un, .un] q = .next [.val (.lst (rowsQ n n (gM ns 0))), .own (rowsQ n n (gM ns 0)), .val (.int 1), .un, .un, .un, .un, .un, .un, .un] q := par2_of (sown_of c0 (sval_of rfl rfl snil))
  let I : Nat → Env → Pen → Prop := fun c env q' => q' = q ∧ ∃ s3 s4 s5 s6 s7 s8 s9, env = [.val (.lst (rowsQ n n (gM ns 0))), .own (rowsQ n n (gM ns c)), .val (.int (aN ns c)), s3, s4, s5, s6, s7, s8, s9]
  obtain ⟨e6, q6, h6, rfl, s3, s4, s5, s6, s7, s8, s9, rfl⟩ := loop_inv (g := gNm 4) (b := wBody) (fun i : Nat => D.int i) I (List.range n) 0 [.val (.lst (rowsQ n n (gM ns 0))), .own (rowsQ n n (gM ns 0)), .val (.int 1), .un, .un, .un, .un, .un, .un, .un] q ⟨rfl, .un, .un, .un, .un, .un, .un, .un, rfl⟩ fun i hi env q' ⟨hq, t3, t4, t5, t6, t7, t8, t9, he⟩ => by
    subst hq he
    rw [List.length_range] at hi
    obtain ⟨u5, u6, u7, hr⟩ := w_col (T := .lst (rowsQ n n (gM ns 0))) (c := i) hb hn hl hs hi t3 t5 t6 t7 t8 t9 q'
    refine ⟨_, rfl, _, q', .inl ?_, rfl, t3, .val (.int i), u5, u6, u7, t8, t9, rfl⟩
    rw [List.getElem_range, Nat.zero_add]
    exact hr
  rw [List.length_range, Nat.zero_add] at h6
  have hr := rng1_int (m := mCall kLen (aCons (mOwn 1) aNil)) (env := [.val (.lst (rowsQ n n (gM ns 0))), .own (rowsQ n n (gM ns 0)), .val (.int 1), .un, .un, .un, .un, .un, .un, .un]) (q := q6) (q2 := q6) (n := n) (call_of (acc rfl ac0) (by rw [len_lst, rowsQ_len])) (by omega) (by omega)
  rw [Int.toNat_natCast, rgI_map] at hr
  have ea : aN ns n = frP ns := by
    unfold aN
    rw [← hn, List.take_length]
  rw [ea] at h6
  show (b__law_worth [.val (.lst (rowsQ n n (gM ns 0))), .un, .un, .un, .un, .un, .un, .un, .un, .un] q6).fin = _
  unfold b__law_worth
  rw [(seq_next e1).trans ((seq_next ((for_of hr).trans h6)).trans (ret_of rfl))]
  rfl
theorem m_whole (hb : Big ns) (h0 : 0 < ns.length) (hl : ns.length ≤ 7) (hs : ∀ x ∈ ns, x.natAbs < 2 ^ 41) (q : Pen) : m__law_whole_worth [triD ns] q = .ok (.int (frP ns)) q := by
  have w := m_worth hb rfl h0 hl hs q
  rw [← tri_rows rfl h0] at w
  have hi : mIt (mVal 0) [.val (triD ns), .un] q = .ok ((List.range ns.length).map fun i : Nat => triR ns i) q := by
    refine (mit_tup rfl).trans ?_
    unfold rgI
    rw [List.map_map]
    rfl
  have cm : mComp (mIt (mVal 0)) [1] (gNm 1) tmYes (mFr (mFCall kList (aCons (mVal 1) aNil))) [.val (triD ns), .un] q = .ok ((List.range ns.length).map fun i : Nat => D.lst ((rgI ns.length).map fun k => .int (tri ns i k))) q := comp_ofM (fun i : Nat => triR ns i) _ hi (by rw [List.length_range, sizeLine_eq]; omega) fun i _ => ⟨_, rfl, fr_of (fcall_of (acc rfl ac0) rfl)⟩
  show (b__law_whole_worth [.val (triD ns), .un] q).fin = _
  unfold b__law_whole_worth
  rw [ret_of ((fn1 (fr_of cm)).trans w)]
  rfl
end
end Lw
end Pu
end

section
set_option maxHeartbeats 4000000
namespace Pu
namespace Lw
open PySem PySem.Spec PyProof.Rows L2
theorem pow5 {n k : Nat} (h : n < 2 ^ k) (hk : k ≤ 5000) : n < 2 ^ 5000 := Nat.lt_of_lt_of_le h (Nat.pow_le_pow_right (by decide) hk)
/-! #### one row, asked -/
theorem fr_two {ns : List Int} (hb : Big ns) (h1 : 1 ≤ ns.length) : 2 ≤ frP ns ∧ 1 ≤ frQ ns ∧ frQ ns < frP ns := by
  match ns, hb, h1 with
  | x :: r, hb, _ =>
    obtain ⟨a1, a2⟩ := fr_pos (r := r) fun y hy => hb y (List.mem_cons_of_mem _ hy)
    obtain ⟨b1, b2⟩ := fr_pos (r := x :: r) hb
    have hx := hb x List.mem_cons_self
    rw [frP_cons, frQ_cons] at *
    have : 2 * frP r ≤ x * frP r := Int.mul_le_mul_of_nonneg_right hx (by omega)
    omega
theorem m_asked {ns : List Int} (hb : Big ns) (h1 : 1 ≤ ns.length) (h2 : ns.length ≤ 40) (hs : ∀ x ∈ ns, x.natAbs < 2 ^ 41) (q : Pen) : m__law_asked [.pen, rowD ns] q = .ok (.bl true) q := by
  have hs64 : ∀ x ∈ ns, x.natAbs < 2 ^ 64 := fun x hx => Nat.lt_of_lt_of_le (hs x hx) (by decide)
  have hne : ns ≠ [] := fun h => by rw [h] at h1; simp at h1
  obtain ⟨p2, q1, qp⟩ := fr_two hb h1
  have f1 := (m_frac hne hs64 q).2
  have f2 := m_linefrac (d := .lst (ns.map D.int)) (.inl rfl) h1 (by omega) hb hs64 q
  have hbr : Big ns.reverse := fun x hx => hb x (List.mem_reverse.mp hx)
  have f3 := m_linefrac (d := .tup (ns.reverse.map D.int)) (.inr rfl) (by rw [List.length_reverse]; exact h1) (by rw [List.length_reverse]; omega) hbr (fun x hx => hs64 x (List.mem_reverse.mp hx)) q
  rw [rev_P] at f3
  have dv := rev_Q ns
  have g := fr_gcd ns
  have szP : (frP ns).natAbs < 2 ^ 5000 := by
    refine pow5 (fr_size (B := 41) hb hs) ?_
    omega
  have szQ : (frQ ns).natAbs < 2 ^ 5000 := Nat.lt_of_le_of_lt (show (frQ ns).natAbs ≤ (frP ns).natAbs by omega) szP
  obtain ⟨r1, r2⟩ := fr_pos hbr
  rw [rev_P] at r2
  have szR : (frQ ns.reverse).natAbs < 2 ^ 5000 := Nat.lt_of_le_of_lt (show (frQ ns.reverse).natAbs ≤ (frP ns).natAbs by omega) szP
  have f4 : frP ns < 10 ^ 60 → m_row_of_fraction [.int (frP ns), .int (frQ ns)] q = .ok (rowD ns) q := fun h => by
    have := m_rowfrac p2 h q1 qp g q
    rw [exN_row 401 hb (by omega), if_pos (by omega)] at this
    exact this
  have f5 := m_linetab h1 (by omega) hb q
  have f6 : ns.length ≤ 7 → m__law_whole_worth [triD ns] q = .ok (.int (frP ns)) q := fun h => m_whole hb (by omega) h hs q
  generalize frP ns = P at *
  generalize frQ ns = Q at *
  generalize frQ ns.reverse = R at *
  let E : Slot → Slot → Slot → Slot → Env := fun s2 s3 s4 s5 => [.val .pen, .val (rowD ns), s2, s3, s4, s5, .un, .un]
  have e1 : mSet (mFn m__law_fraction (aCons (mVal 1) aNil)) (gTp (gsCons (gNm 2) (gsCons (gNm 3) gsNil))) (E .un .un .un .un) q = .next (E (.val (.int P)) (.val (.int Q)) .un .un) q := set_of ((fn1 rfl).trans f1) rfl
  have i1 : m__law_is 3 [.tup [.int P, .int Q], .tup [.int P, .int Q]] q = .ok (.bl true) q := is_row 1 (ns := [P, Q]) (by simp) q
  have t2 : mTNot (mT (mFn (m__law_is 3) (aCons (mFn m_line_fraction (aCons (mFr (mFCall kList (aCons (mVal 1) aNil))) aNil)) (aCons (mTup (aCons (mVal 2) (aCons (mVal 3) aNil))) aNil)))) (E (.val (.int P)) (.val (.int Q)) .un .un) q = .ok false q := not_of (t_of ((fn2 ((fn1 (fr_of (fcall_of (es := ns.map D.int) (acc rfl ac0) rfl))).trans f2) (tup_of (acc rfl (acc rfl ac0)) (by simp))).trans i1))
  have t3a : mT (mOp kLt (mVal 2) (mOp kPow (mC (.int 10)) (mC (.int 60)))) (E (.val (.int P)) (.val (.int Q)) .un .un) q = .ok (decide (P < 10 ^ 60)) q := t_of (op_of rfl (op_of rfl rfl (pow10 60 (by decide))) (lt_int _ _))
  have t3 : mTAnd (mT (mOp kLt (mVal 2) (mOp kPow (mC (.int 10)) (mC (.int 60))))) (mTNot (mT (mFn (m__law_is 3) (aCons (mFn m_row_of_fraction (aCons (mVal 2) (aCons (mVal 3) aNil))) (aCons (mVal 1) aNil))))) (E (.val (.int P)) (.val (.int Q)) .un .un) q = .ok false q := by
    by_cases c : P < 10 ^ 60
    · exact (and_t (tm_to t3a (decide_eq_true c))).trans (not_of (t_of ((fn2 ((fn2 rfl rfl).trans (f4 c)) rfl).trans (is_row 1 (by omega) q))))
    · exact and_f (tm_to t3a (decide_eq_false c))
  have rv : mSlR (mVal 1) oNone (oSome (mNeg (mC (.int 1)))) (E (.val (.int P)) (.val (.int Q)) .un .un) q = .ok (.tup (ns.reverse.map D.int)) q := by
    have e : mSlR (mVal 1) oNone (oSome (mNeg (mC (.int 1)))) (E (.val (.int P)) (.val (.int Q)) .un .un) q = .ok (.tup (revD (ns.map D.int) none)) q := rfl
    rw [e, revD_none, List.map_reverse]
  have e4 : mSet (mFn m_line_fraction (aCons (mSlR (mVal 1) oNone (oSome (mNeg (mC (.int 1))))) aNil)) (gNm 4) (E (.val (.int P)) (.val (.int Q)) .un .un) q = .next (E (.val (.int P)) (.val (.int Q)) (.val (.tup [.int P, .int R])) .un) q := set_of ((fn1 rv).trans f3) rfl
  have t5a : mT (mOp kNe (mOp kIx (mVal 4) (mC (.int 0))) (mVal 2)) (E (.val (.int P)) (.val (.int Q)) (.val (.tup [.int P, .int R])) .un) q = .ok false q := tm_to (t_of (op_of (op_of rfl rfl (ix0 _ _)) rfl (ne_int _ _))) (by simp)
  have md : kModI (Q * R - 1) P = some (.int ((Q * R - 1).fmod P)) := mod_ok _ (by omega)
  have md0 : (Q * R - 1).fmod P = 0 := Int.fmod_eq_zero_of_dvd dv
  rw [md0] at md
  have t5b : mT (mOp kNe (mOp kMod (mCall kInt1 (aCons (mOp kSub (mOp kMul (mVal 3) (mOp kIx (mVal 4) (mC (.int 1)))) (mC (.int 1))) aNil)) (mVal 2)) (mC (.int 0))) (E (.val (.int P)) (.val (.int Q)) (.val (.tup [.int P, .int R])) .un) q = .ok false q := tm_to (t_of (op_of (op_of (call_of (acc (op_of (op_of rfl (op_of rfl rfl (ix1 _ _ _)) (mul_big szQ szR)) rfl (sub_int _ _)) ac0) rfl) rfl md) rfl (ne_int _ _))) rfl
  have kl : kLen [rowD ns] = some (.int ns.length) := by rw [rowD, len_tup, List.length_map]
  have hr := rng1_int (m := mCall kLen (aCons (mVal 1) aNil)) (env := E (.val (.int P)) (.val (.int Q)) (.val (.tup [.int P, .int R])) .un) (q := q) (q2 := q) (n := ns.length) (call_of (acc rfl ac0) kl) (by omega) (by omega)
  rw [Int.toNat_natCast] at hr
  have cm : mComp (mRng1 (mCall kLen (aCons (mVal 1) aNil))) [7] (gNm 7) tmYes (mCall kTuple (aCons (mFr (mComp (mRng1 (mCall kLen (aCons (mVal 1) aNil))) [6] (gNm 6) tmYes (mIf (mT (mOp kEq (mVal 7) (mVal 6))) (mOp kIx (mVal 1) (mVal 7)) (mIf (mT (mOp kEq (mCall kAbs (aCons (mOp kSub (mVal 7) (mVal 6)) aNil)) (mC (.int 1)))) (mNeg (mC (.int 1))) (mC (.int 0)))))) aNil)) (E (.val (.int P)) (.val (.int Q)) (.val (.tup [.int P, .int R])) .un) q = .ok ((rgI ns.length).map (triR ns)) q := comp_ofM D.int _ hr (by rw [rgI_len, sizeLine_eq]; omega) fun i hi => by
    have hi := rgI_mem.mp hi
    refine ⟨_, rfl, ?_⟩
    have hr2 := rng1_int (m := mCall kLen (aCons (mVal 1) aNil)) (env := [.val .pen, .val (rowD ns), .val (.int P), .val (.int Q), .val (.tup [.int P, .int R]), .un, .un, .val (.int i)]) (q := q) (q2 := q) (n := ns.length) (call_of (acc rfl ac0) kl) (by omega) (by omega)
    rw [Int.toNat_natCast] at hr2
    exact call_of (acc (fr_of (comp_ofM D.int (fun k => .int (tri ns i k)) hr2 (by rw [rgI_len, sizeLine_eq]; omega) fun k _ => ⟨_, rfl, cell_ev hi.1 hi.2 rfl rfl rfl⟩)) ac0) (tuple_lst _)
  have e6 : mSet (mCall kTuple (aCons (mFr (mComp (mRng1 (mCall kLen (aCons (mVal 1) aNil))) [7] (gNm 7) tmYes (mCall kTuple (aCons (mFr (mComp (mRng1 (mCall kLen (aCons (mVal 1) aNil))) [6] (gNm 6) tmYes (mIf (mT (mOp kEq (mVal 7) (mVal 6))) (mOp kIx (mVal 1) (mVal 7)) (mIf (mT (mOp kEq (mCall kAbs (aCons (mOp kSub (mVal 7) (mVal 6)) aNil)) (mC (.int 1)))) (mNeg (mC (.int 1))) (mC (.int 0)))))) aNil)))) aNil)) (gNm 5) (E (.val (.int P)) (.val (.int Q)) (.val (.tup [.int P, .int R])) .un) q = .next (E (.val (.int P)) (.val (.int Q)) (.val (.tup [.int P, .int R])) (.val (triD ns))) q := set_of (call_of (acc (fr_of cm) ac0) (tuple_lst _)) rfl
  have t7 : mT (mFn (m__law_is 3) (aCons (mFn m_line_table (aCons (mVal 1) aNil)) (aCons (mVal 5) aNil))) (E (.val (.int P)) (.val (.int Q)) (.val (.tup [.int P, .int R])) (.val (triD ns))) q = .ok true q := t_of ((fn2 ((fn1 rfl).trans f5) rfl).trans (is_tri 0 (by omega) q))
  have t8a : mT (mOp kGt (mCall kLen (aCons (mVal 1) aNil)) (mC (.int 7))) (E (.val (.int P)) (.val (.int Q)) (.val (.tup [.int P, .int R])) (.val (triD ns))) q = .ok (decide ((ns.length : Int) > 7)) q := t_of (op_of (call_of (acc rfl ac0) kl) rfl (gt_int _ _))
  have t8 : mTOr (mT (mOp kGt (mCall kLen (aCons (mVal 1) aNil)) (mC (.int 7)))) (mT (mOp kEq (mFn m__law_whole_worth (aCons (mVal 5) aNil)) (mVal 2))) (E (.val (.int P)) (.val (.int Q)) (.val (.tup [.int P, .int R])) (.val (triD ns))) q = .ok true q := by
    by_cases c : (ns.length : Int) > 7
    · exact or_t (tm_to t8a (decide_eq_true c))
    · exact (or_f (tm_to t8a (decide_eq_false c))).trans (tm_to (t_of (op_of ((fn1 rfl).trans (f6 (by omega))) rfl (eq_int _ _))) (by simp))
  show (b__law_asked (E .un .un .un .un) q).fin = _
  unfold b__law_asked
  rw [(seq_next e1).trans ((seq_next (if_skip t2)).trans ((seq_next (if_skip t3)).trans ((seq_next e4).trans ((seq_next (if_skip ((or_f t5a).trans t5b))).trans ((seq_next e6).trans (ret_of (v_of ((and_t t7).trans t8))))))))]
  rfl
end Lw
end Pu
end

section
set_option maxHeartbeats 4000000
namespace Pu
namespace Lw
open PySem PySem.Spec PyProof.Rows L2
/-! #### fractions drawn -/
theorem loopS_all {g : GM} {b : SM} (E : Slot → Env) (hg : ∀ d s, g d (E s) = some (E (.val d))) : ∀ (vs : List D) (s : Slot) (q : Pen), (∀ v ∈ vs, ∀ q, b (E (.val v)) q = .next (E (.val v)) q) → ∃ s', loopS g b vs (E s) q = .next (E s') q
  | [], s, q, _ => ⟨s, rfl⟩
  | v :: vs, s, q, h => by
    obtain ⟨s', e⟩ := loopS_all E hg vs (.val v) q fun x hx => h x (List.mem_cons_of_mem _ hx)
    exact ⟨s', (loop_next (hg v s) (h v List.mem_cons_self q)).trans e⟩
theorem ten_gdiv {s : Int} (h0 : 0 < s) (h1 : s ≤ 10 ^ 45) : gDiv s = true := by
  unfold gDiv
  rw [Bool.and_eq_true, Bool.or_eq_true, Bool.and_eq_true, decide_eq_true_eq, decide_eq_true_eq, decide_eq_true_eq, decide_eq_true_eq]
  refine ⟨by omega, .inr ⟨by omega, ?_⟩⟩
  have : Nat.log2 s.natAbs < 200 := (Nat.log2_lt (by omega)).mpr (Nat.lt_of_le_of_lt (show s.natAbs ≤ 10 ^ 45 by omega) (by decide +kernel))
  omega
theorem shp_num {w : Str} {y : Str} (hw : Sm w) (hy : Sm y) : SeqAt.shaped (D.tup [.str "number", .str w, .str y]).py = true := shaped_strs3 (Sm.lit _) hw hy
theorem shp_many : SeqAt.shaped (D.tup [.str "many", .str "row", .int 401, .int 400]).py = true := by decide +kernel
abbrev bodyL : SM := (mSeq (mSet (mFn m__law_pick (aCons (mVal 1) (aCons (mFr (mLst (aCons (mC (.int 2)) (aCons (mC (.int 5)) (aCons (mC (.int 30)) (aCons (mOp kPow (mC (.int 10)) (mC (.int 12))) aNil)))))) aNil))) (gNm 3))
    (mSeq (mSet (mCall kTuple (aCons (mFr (mComp (mRng1 (mOp kAdd (mC (.int 1)) (mFn m__law_draw (aCons (mVal 1) (aCons (mFn m__law_pick (aCons (mVal 1) (aCons (mFr (mLst (aCons (mC (.int 3)) (aCons (mC (.int 7)) (aCons (mC (.int 40)) aNil))))) aNil))) aNil))))) [5] (gNm 5) tmYes (mOp kAdd (mC (.int 2)) (mFn m__law_draw (aCons (mVal 1) (aCons (mVal 3) aNil)))))) aNil)) (gNm 4))
    (mSeq (mIfS (mTNot (mT (mFn m__law_asked (aCons (mVal 1) (aCons (mVal 4) aNil))))) (mRet (mC (.bl false))) mNext)
    (mSeq (mSet (mOp kAdd (mC (.int 2)) (mFn m__law_draw (aCons (mVal 1) (aCons (mFn m__law_pick (aCons (mVal 1) (aCons (mFr (mLst (aCons (mC (.int 50)) (aCons (mC (.int 1000)) (aCons (mOp kPow (mC (.int 10)) (mC (.int 30))) aNil))))) aNil))) aNil)))) (gNm 6))
    (mSeq (mSet (mOp kAdd (mC (.int 1)) (mFn m__law_draw (aCons (mVal 1) (aCons (mOp kSub (mVal 6) (mC (.int 1))) aNil)))) (gNm 7))
    (mSeq (mSet (mFn m__law_divisor (aCons (mVal 6) (aCons (mVal 7) aNil))) (gNm 8))
    (mSeq (mSet (mIf (mT (mOp kEq (mVal 8) (mC (.int 1)))) (mFn m__law_row_of (aCons (mVal 6) (aCons (mVal 7) aNil))) (mC .non)) (gNm 9))
    (mSeq (mIfS (mTAnd (mT (mOp kNe (mVal 8) (mC (.int 1)))) (mT (mOp kNe (mLam 3 b__law_fault (mFn m_row_of_fraction (aCons (mVal 6) (aCons (mVal 7) aNil)))) (mTup (aCons (mC (.str "number")) (aCons (mC (.str "q")) (aCons (mCall kRepr (aCons (mVal 7) aNil)) aNil))))))) (mRet (mC (.bl false))) mNext)
    (mSeq (mIfS (mTAnd (mT (mOp kEq (mVal 8) (mC (.int 1)))) (mTAnd (mT (mOp kLe (mCall kLen (aCons (mVal 9) aNil)) (mC (.int 400)))) (mTNot (mT (mFn (m__law_is 3) (aCons (mFn m_row_of_fraction (aCons (mVal 6) (aCons (mVal 7) aNil))) (aCons (mVal 9) aNil))))))) (mRet (mC (.bl false))) mNext)
    (mIfS (mTAnd (mT (mOp kEq (mVal 8) (mC (.int 1)))) (mTAnd (mT (mOp kGt (mCall kLen (aCons (mVal 9) aNil)) (mC (.int 400)))) (mT (mOp kNe (mLam 3 b__law_fault (mFn m_row_of_fraction (aCons (mVal 6) (aCons (mVal 7) aNil)))) (mTup (aCons (mC (.str "many")) (aCons (mC (.str "row")) (aCons (mC (.int 401)) (aCons (mC (.int 400)) aNil))))))))) (mRet (mC (.bl false))) mNext))))))))))
theorem draw_row (q : Pen) (s2 s4 s5 s6 s7 s8 s9 : Slot) {z : Int} (z0 : 0 < z) (z1 : z ≤ 10 ^ 12) : ∃ (ns : List Int) (q' : Pen), mSet (mCall kTuple (aCons (mFr (mComp (mRng1 (mOp kAdd (mC (.int 1)) (mFn m__law_draw (aCons (mVal 1) (aCons (mFn m__law_pick (aCons (mVal 1) (aCons (mFr (mLst (aCons (mC (.int 3)) (aCons (mC (.int 7)) (aCons (mC (.int 40)) aNil))))) aNil))) aNil))))) [5] (gNm 5) tmYes (mOp kAdd (mC (.int 2)) (mFn m__law_draw (aCons (mVal 1) (aCons (mVal 3) aNil)))))) aNil)) (gNm 4) [.un, .val .pen, s2, .val (.int z), s4, .un, s6, s7, s8, s9, .un, .un, .un] q = .next [.un, .val .pen, s2, .val (.int z), .val (rowD ns), .un, s6, s7, s8, s9, .un, .un, .un] q' ∧ Big ns ∧ 1 ≤ ns.length ∧ ns.length ≤ 40 ∧ ∀ x ∈ ns, x.natAbs < 2 ^ 41 := by
  obtain ⟨x, q1, hx, d1⟩ := m_pick q (.lst [.int 3, .int 7, .int 40]) _ rfl (.inl rfl) (by simp) (by simp)
  have hk : ∃ k : Int, x = .int k ∧ 0 < k ∧ k ≤ 40 := by
    simp only [List.mem_cons, List.not_mem_nil, or_false] at hx
    rcases hx with rfl | rfl | rfl <;> exact ⟨_, rfl, by decide, by decide⟩
  obtain ⟨k, rfl, k0, k1⟩ := hk
  obtain ⟨r, q2, d2, r0, r1⟩ := m_draw q1 k k0 (by omega)
  let E : Slot → Env := fun s4 => [.un, .val .pen, s2, .val (.int z), s4, .un, s6, s7, s8, s9, .un, .un, .un]
  have hi := rng1_int (m := mOp kAdd (mC (.int 1)) (mFn m__law_draw (aCons (mVal 1) (aCons (mFn m__law_pick (aCons (mVal 1) (aCons (mFr (mLst (aCons (mC (.int 3)) (aCons (mC (.int 7)) (aCons (mC (.int 40)) aNil))))) aNil))) aNil)))) (env := E s4) (q := q) (q2 := q2) (n := 1 + r) (op_of rfl ((fn2 rfl ((fn2 rfl (fr_of (lst_of (acc rfl (acc rfl (acc rfl ac0))) (by simp)))).trans d1)).trans d2) (add_int _ _)) (by omega) (by omega)
  obtain ⟨ns, q3, c1, cl, cp, _⟩ := comp_rel (vs := [5]) (g := gNm 5) (te := mOp kAdd (mC (.int 2)) (mFn m__law_draw (aCons (mVal 1) (aCons (mVal 3) aNil)))) D.int (fun _ x => 2 ≤ x ∧ x.natAbs < 2 ^ 41) hi (by rw [List.length_map, rgI_len, sizeLine_eq]; omega) fun d _ q => by
    obtain ⟨y, q', d3, y0, y1⟩ := m_drawG q z z0 (ten_gdiv z0 (by omega))
    refine ⟨_, rfl, 2 + y, q', op_of rfl ((fn2 rfl rfl).trans d3) (add_int _ _), by omega, ?_⟩
    exact Nat.lt_of_lt_of_le (show (2 + y).natAbs < 2 * 10 ^ 12 by omega) (by decide +kernel)
  rw [List.length_map, rgI_len] at cl
  refine ⟨ns, q3, set_of (call_of (acc (fr_of c1) ac0) (tuple_lst _)) rfl, fun x hx => ?_, by omega, by omega, fun x hx => ?_⟩
  · obtain ⟨_, _, h, _⟩ := cp x hx
    exact h
  · obtain ⟨_, _, _, h⟩ := cp x hx
    exact h
theorem lap_step (s2 s3 s4 s6 s7 s8 s9 : Slot) (q : Pen) : ∃ s3' s4' s6' s7' s8' s9' q', bodyL [.un, .val .pen, s2, s3, s4, .un, s6, s7, s8, s9, .un, .un, .un] q = .next [.un, .val .pen, s2, s3', s4', .un, s6', s7', s8', s9', .un, .un, .un] q' := by
  obtain ⟨x, q1, hx, d1⟩ := m_pick q (.lst [.int 2, .int 5, .int 30, .int (10 ^ 12)]) _ rfl (.inl rfl) (by simp) (by simp)
  have hz : ∃ z : Int, x = .int z ∧ 0 < z ∧ z ≤ 10 ^ 12 := by
    simp only [List.mem_cons, List.not_mem_nil, or_false] at hx
    rcases hx with rfl | rfl | rfl | rfl <;> exact ⟨_, rfl, by decide +kernel, by decide +kernel⟩
  obtain ⟨z, rfl, z0, z1⟩ := hz
  have e1 : mSet (mFn m__law_pick (aCons (mVal 1) (aCons (mFr (mLst (aCons (mC (.int 2)) (aCons (mC (.int 5)) (aCons (mC (.int 30)) (aCons (mOp kPow (mC (.int 10)) (mC (.int 12))) aNil)))))) aNil))) (gNm 3) [.un, .val .pen, s2, s3, s4, .un, s6, s7, s8, s9, .un, .un, .un] q = .next [.un, .val .pen, s2, .val (.int z), s4, .un, s6, s7, s8, s9, .un, .un, .un] q1 := set_of ((fn2 rfl (fr_of (lst_of (acc rfl (acc rfl (acc rfl (acc (op_of rfl rfl (pow10 12 (by decide))) ac0)))) (by simp)))).trans d1) rfl
  obtain ⟨ns, q2, e2, hb, l1, l2, hs⟩ := draw_row q1 s2 s4 .un s6 s7 s8 s9 z0 z1
  have a3 := m_asked hb l1 l2 hs q2
  let E : Slot → Slot → Slot → Slot → Env := fun s6 s7 s8 s9 => [.un, .val .pen, s2, .val (.int z), .val (rowD ns), .un, s6, s7, s8, s9, .un, .un, .un]
  have t3 : mTNot (mT (mFn m__law_asked (aCons (mVal 1) (aCons (mVal 4) aNil)))) (E s6 s7 s8 s9) q2 = .ok false q2 := not_of (t_of ((fn2 rfl rfl).trans a3))
  obtain ⟨y, q3, hy, d3⟩ := m_pick q2 (.lst [.int 50, .int 1000, .int (10 ^ 30)]) _ rfl (.inl rfl) (by simp) (by simp)
  have hw : ∃ w : Int, y = .int w ∧ 0 < w ∧ w ≤ 10 ^ 30 := by
    simp only [List.mem_cons, List.not_mem_nil, or_false] at hy
    rcases hy with rfl | rfl | rfl <;> exact ⟨_, rfl, by decide +kernel, by decide +kernel⟩
  obtain ⟨w, rfl, w0, w1⟩ := hw
  have b30 : (10 : Int) ^ 30 + 10 < 10 ^ 45 ∧ (10 : Int) ^ 45 < 10 ^ 60 := by decide +kernel
  obtain ⟨u, q4, d4, u0, u1⟩ := m_drawG q3 w w0 (ten_gdiv w0 (by omega))
  have e4 : mSet (mOp kAdd (mC (.int 2)) (mFn m__law_draw (aCons (mVal 1) (aCons (mFn m__law_pick (aCons (mVal 1) (aCons (mFr (mLst (aCons (mC (.int 50)) (aCons (mC (.int 1000)) (aCons (mOp kPow (mC (.int 10)) (mC (.int 30))) aNil))))) aNil))) aNil)))) (gNm 6) (E s6 s7 s8 s9) q2 = .next (E (.val (.int (2 + u))) s7 s8 s9) q4 := set_of (op_of rfl ((fn2 rfl ((fn2 rfl (fr_of (lst_of (acc rfl (acc rfl (acc (op_of rfl rfl (pow10 30 (by decide))) ac0))) (by simp)))).trans d3)).trans d4) (add_int _ _)) rfl
  obtain ⟨v, q5, d5, v0, v1⟩ := m_drawG q4 (2 + u - 1) (by omega) (ten_gdiv (by omega) (by omega))
  have e5 : mSet (mOp kAdd (mC (.int 1)) (mFn m__law_draw (aCons (mVal 1) (aCons (mOp kSub (mVal 6) (mC (.int 1))) aNil)))) (gNm 7) (E (.val (.int (2 + u))) s7 s8 s9) q4 = .next (E (.val (.int (2 + u))) (.val (.int (1 + v))) s8 s9) q5 := set_of (op_of rfl ((fn2 rfl (op_of rfl rfl (sub_int _ _))).trans d5) (add_int _ _)) rfl
  have p2 : 2 ≤ 2 + u := by omega
  have pB : 2 + u < 10 ^ 60 := by omega
  have qq1 : 1 ≤ 1 + v := by omega
  have qp : 1 + v < 2 + u := by omega
  have qz : (1 + v).natAbs < 10 ^ 45 := by omega
  generalize 2 + u = p at *
  generalize 1 + v = k at *
  have e6 : mSet (mFn m__law_divisor (aCons (mVal 6) (aCons (mVal 7) aNil))) (gNm 8) (E (.val (.int p)) (.val (.int k)) s8 s9) q5 = .next (E (.val (.int p)) (.val (.int k)) (.val (.int (Int.gcd p k))) s9) q5 := set_of ((fn2 rfl rfl).trans (m_divisor p k q5)) rfl
  by_cases g : Int.gcd p k = 1
  · have lr := m_lrow (show 0 ≤ k by omega) qp pB q5
    have rf := m_rowfrac p2 pB qq1 qp g q5
    rw [g] at e6
    let D9 : Slot := .val (rowD (exN 500 p k))
    have tc : ∀ s9, mT (mOp kEq (mVal 8) (mC (.int 1))) (E (.val (.int p)) (.val (.int k)) (.val (.int (1 : Nat))) s9) q5 = .ok true q5 := fun s9 => t_of (op_of rfl rfl (eq_int _ _))
    have tn : mT (mOp kNe (mVal 8) (mC (.int 1))) (E (.val (.int p)) (.val (.int k)) (.val (.int (1 : Nat))) D9) q5 = .ok false q5 := t_of (op_of rfl rfl (ne_int _ _))
    have e7 : mSet (mIf (mT (mOp kEq (mVal 8) (mC (.int 1)))) (mFn m__law_row_of (aCons (mVal 6) (aCons (mVal 7) aNil))) (mC .non)) (gNm 9) (E (.val (.int p)) (.val (.int k)) (.val (.int (1 : Nat))) s9) q5 = .next (E (.val (.int p)) (.val (.int k)) (.val (.int (1 : Nat))) D9) q5 := set_of ((ife_t (tc _)).trans ((fn2 rfl rfl).trans lr)) rfl
    have kl : kLen [rowD (exN 500 p k)] = some (.int (exN 500 p k).length) := by rw [rowD, len_tup, List.length_map]
    have tl : mT (mOp kLe (mCall kLen (aCons (mVal 9) aNil)) (mC (.int 400))) (E (.val (.int p)) (.val (.int k)) (.val (.int (1 : Nat))) D9) q5 = .ok (decide (((exN 500 p k).length : Int) ≤ 400)) q5 := t_of (op_of (call_of (acc rfl ac0) kl) rfl (le_int _ _))
    have tg : mT (mOp kGt (mCall kLen (aCons (mVal 9) aNil)) (mC (.int 400))) (E (.val (.int p)) (.val (.int k)) (.val (.int (1 : Nat))) D9) q5 = .ok (decide (((exN 500 p k).length : Int) > 400)) q5 := t_of (op_of (call_of (acc rfl ac0) kl) rfl (gt_int _ _))
    have t9 : mTAnd (mT (mOp kEq (mVal 8) (mC (.int 1)))) (mTAnd (mT (mOp kLe (mCall kLen (aCons (mVal 9) aNil)) (mC (.int 400)))) (mTNot (mT (mFn (m__law_is 3) (aCons (mFn m_row_of_fraction (aCons (mVal 6) (aCons (mVal 7) aNil))) (aCons (mVal 9) aNil)))))) (E (.val (.int p)) (.val (.int k)) (.val (.int (1 : Nat))) D9) q5 = .ok false q5 := by
      refine (and_t (tc _)).trans ?_
      by_cases h : (exN 500 p k).length ≤ 400
      · refine (and_t (tm_to tl (decide_eq_true (by omega)))).trans ?_
        have h401 : (exN 401 p k).length ≤ 400 := Nat.le_trans (exN_mono 401 99 p k) h
        have es : exN 500 p k = exN 401 p k := exN_stop 401 99 p k (by omega)
        rw [if_pos h401, ← es] at rf
        exact not_of (t_of ((fn2 ((fn2 rfl rfl).trans rf) rfl).trans (is_row 1 (by omega) q5)))
      · exact and_f (tm_to tl (decide_eq_false (by omega)))
    have t10 : mTAnd (mT (mOp kEq (mVal 8) (mC (.int 1)))) (mTAnd (mT (mOp kGt (mCall kLen (aCons (mVal 9) aNil)) (mC (.int 400)))) (mT (mOp kNe (mLam 3 b__law_fault (mFn m_row_of_fraction (aCons (mVal 6) (aCons (mVal 7) aNil)))) (mTup (aCons (mC (.str "many")) (aCons (mC (.str "row")) (aCons (mC (.int 401)) (aCons (mC (.int 400)) aNil)))))))) (E (.val (.int p)) (.val (.int k)) (.val (.int (1 : Nat))) D9) q5 = .ok false q5 := by
      refine (and_t (tc _)).trans ?_
      by_cases h : (exN 500 p k).length ≤ 400
      · exact and_f (tm_to tg (decide_eq_false (by omega)))
      · refine (and_t (tm_to tg (decide_eq_true (by omega)))).trans ?_
        have h401 : ¬ (exN 401 p k).length ≤ 400 := fun h2 => h (by
          have es : exN 500 p k = exN 401 p k := exN_stop 401 99 p k (by omega)
          rw [es]
          exact h2)
        rw [if_neg h401] at rf
        have f := fault_TooMany (.str "row") (.int 401) (.int 400) rfl rfl rfl rfl rfl rfl (cb := mFn m_row_of_fraction (aCons (mVal 6) (aCons (mVal 7) aNil))) (env := E (.val (.int p)) (.val (.int k)) (.val (.int (1 : Nat))) D9) (q := q5) (q2 := q5) ((fn2 rfl rfl).trans rf)
        exact t_of (op_of f (tup_of (acc rfl (acc rfl (acc rfl (acc rfl ac0)))) (by simp)) (ne_refl shp_many))
    refine ⟨.val (.int z), .val (rowD ns), .val (.int p), .val (.int k), .val (.int (1 : Nat)), D9, q5, ?_⟩
    exact (seq_next e1).trans ((seq_next e2).trans ((seq_next (if_skip t3)).trans ((seq_next e4).trans ((seq_next e5).trans ((seq_next e6).trans ((seq_next e7).trans ((seq_next (if_skip (and_f tn))).trans ((seq_next (if_skip t9)).trans (if_skip t10)))))))))
  · have rf := m_rowfrac_gcd p2 pB qq1 qp g q5
    have rp := (od_int (r := k) qz).rp
    have tc : ∀ s9, mT (mOp kEq (mVal 8) (mC (.int 1))) (E (.val (.int p)) (.val (.int k)) (.val (.int (Int.gcd p k))) s9) q5 = .ok false q5 := fun s9 => tm_to (t_of (op_of rfl rfl (eq_int _ _))) (beq_false_of_ne (by omega))
    have tn : mT (mOp kNe (mVal 8) (mC (.int 1))) (E (.val (.int p)) (.val (.int k)) (.val (.int (Int.gcd p k))) (.val .non)) q5 = .ok true q5 := tm_to (t_of (op_of rfl rfl (ne_int _ _))) (by
      rw [show (((Int.gcd p k : Nat) : Int) == 1) = false from beq_false_of_ne (by omega)]
      rfl)
    have e7 : mSet (mIf (mT (mOp kEq (mVal 8) (mC (.int 1)))) (mFn m__law_row_of (aCons (mVal 6) (aCons (mVal 7) aNil))) (mC .non)) (gNm 9) (E (.val (.int p)) (.val (.int k)) (.val (.int (Int.gcd p k))) s9) q5 = .next (E (.val (.int p)) (.val (.int k)) (.val (.int (Int.gcd p k))) (.val .non)) q5 := set_of ((ife_f (tc _)).trans rfl) rfl
    have f := fault_BadNumber (.str "q") (.int k) _ rp.rep rfl rfl rp.noX rp.noC (cb := mFn m_row_of_fraction (aCons (mVal 6) (aCons (mVal 7) aNil))) (env := E (.val (.int p)) (.val (.int k)) (.val (.int (Int.gcd p k))) (.val .non)) (q := q5) (q2 := q5) ((fn2 rfl rfl).trans rf)
    have t8 : mTAnd (mT (mOp kNe (mVal 8) (mC (.int 1)))) (mT (mOp kNe (mLam 3 b__law_fault (mFn m_row_of_fraction (aCons (mVal 6) (aCons (mVal 7) aNil)))) (mTup (aCons (mC (.str "number")) (aCons (mC (.str "q")) (aCons (mCall kRepr (aCons (mVal 7) aNil)) aNil)))))) (E (.val (.int p)) (.val (.int k)) (.val (.int (Int.gcd p k))) (.val .non)) q5 = .ok false q5 := (and_t tn).trans (t_of (op_of f (tup_of (acc rfl (acc rfl (acc (call_of (acc rfl ac0) rp.rep) ac0))) (by simp)) (ne_refl (shp_num (Sm.lit _) rp.sm))))
    refine ⟨.val (.int z), .val (rowD ns), .val (.int p), .val (.int k), .val (.int (Int.gcd p k)), .val .non, q5, ?_⟩
    exact (seq_next e1).trans ((seq_next e2).trans ((seq_next (if_skip t3)).trans ((seq_next e4).trans ((seq_next e5).trans ((seq_next e6).trans ((seq_next e7).trans ((seq_next (if_skip t8)).trans ((seq_next (if_skip (and_f (tc _)))).trans (if_skip (and_f (tc _)))))))))))
end Lw
end Pu
end

section
set_option maxHeartbeats 4000000
namespace Pu
namespace Lw
open PySem PySem.Spec PyProof.Rows L2
/-! #### odd values refused -/
def badP (d : D) : Bool := match d with
  | .int i => !(decide (2 ≤ i) && decide (i < 10 ^ 60))
  | _ => true
theorem chain_ff {k k' : D → D → Option D} {a b c : EM} {env : Env} {q q1 q2 : Pen} {d e : D} (h : a env q = .ok d q1) (h2 : b env q1 = .ok e q2) (hk : k d e = some (.bl false)) : mChain k k' a b c env q = .ok (.bl false) q2 := by
  unfold mChain
  rw [h, bind_ok, h2, bind_ok, hk]
theorem chain_tf {k k' : D → D → Option D} {a b c : EM} {env : Env} {q q1 q2 q3 : Pen} {d e f z : D} (h : a env q = .ok d q1) (h2 : b env q1 = .ok e q2) (hk : k d e = some (.bl true)) (h3 : c env q2 = .ok f q3) (hk' : k' e f = some z) : mChain k k' a b c env q = .ok z q3 := chain_tt h h2 hk h3 hk'
theorem isI1_int {d : D} (h : d.isI1 = true) : ∃ i, d = .int i := by cases d <;> first | exact ⟨_, rfl⟩ | cases h
theorem nf_p {d : D} (hb : d.bs = true) (h : badP d = true) (e : D) (pen : Pen) : m_need_fraction [d, e] pen = .err (errB "p" d) pen := by
  have t1 : mTNot (mT (mFn m_is_integer (aCons (mVal 0) aNil))) [.val d, .val e] pen = .ok (!d.isI1) pen := not_of (t_of ((fn1 rfl).trans (m_integer hb pen)))
  have t : mTOr (mTNot (mT (mFn m_is_integer (aCons (mVal 0) aNil)))) (mTNot (mT (mChain kLe kLt (mC (.int 2)) (mVal 0) (mC (.int 1000000000000000000000000000000000000000000000000000000000000))))) [.val d, .val e] pen = .ok true pen := by
    by_cases c : d.isI1 = true
    · rw [c] at t1
      obtain ⟨i, rfl⟩ := isI1_int c
      refine (or_f t1).trans ?_
      by_cases c1 : 2 ≤ i
      · have c2 : ¬ i < 10 ^ 60 := by
          intro c2
          have h : (!(decide (2 ≤ i) && decide (i < 10 ^ 60))) = true := h
          rw [decide_eq_true c1, decide_eq_true c2] at h
          cases h
        have c2 : ¬ i < 1000000000000000000000000000000000000000000000000000000000000 := c2
        exact not_of (t_of (chain_tt (z := .bl false) rfl rfl (by rw [le_int, decide_eq_true c1]) rfl (by rw [lt_int, decide_eq_false c2])))
      · exact not_of (t_of (chain_ff rfl rfl (by rw [le_int, decide_eq_false c1])))
    · rw [Bool.eq_false_iff.mpr c] at t1
      exact or_t t1
  show (b_need_fraction [.val d, .val e] pen).fin = _
  unfold b_need_fraction
  rw [seq_err ((if_t t).trans (raise_of (acc rfl (acc rfl ac0)) rfl))]
  rfl
theorem rf_p {d : D} (hb : d.bs = true) (h : badP d = true) (e : D) (pen : Pen) : m_row_of_fraction [d, e] pen = .err (errB "p" d) pen := by
  have k1 := nf_p hb h e pen
  show (b_row_of_fraction [.val d, .val e, .un, .un] pen).fin = _
  unfold b_row_of_fraction
  rw [seq_err (drop_err ((fn2 rfl rfl).trans k1))]
  rfl
def badQ (d : D) : Bool := match d with
  | .int i => !(decide (1 ≤ i) && (decide (i < 6) && decide (Int.gcd 6 i = 1)))
  | _ => true
theorem nf_q {d : D} (hb : d.bs = true) (h : badQ d = true) (pen : Pen) : m_need_fraction [.int 6, d] pen = .err (errB "q" d) pen := by
  have t1 : mTNot (mT (mFn m_is_integer (aCons (mVal 0) aNil))) [.val (.int 6), .val d] pen = .ok false pen := not_of (t_of ((fn1 rfl).trans (m_isint 6 pen)))
  have t2 : mTNot (mT (mChain kLe kLt (mC (.int 2)) (mVal 0) (mC (.int 1000000000000000000000000000000000000000000000000000000000000)))) [.val (.int 6), .val d] pen = .ok false pen := not_of (t_of (chain_tt (z := .bl true) rfl rfl rfl rfl rfl))
  have t3 : mTNot (mT (mFn m_is_integer (aCons (mVal 1) aNil))) [.val (.int 6), .val d] pen = .ok (!d.isI1) pen := not_of (t_of ((fn1 rfl).trans (m_integer hb pen)))
  have t : mTOr (mTNot (mT (mFn m_is_integer (aCons (mVal 1) aNil)))) (mTOr (mTNot (mT (mChain kLe kLt (mC (.int 1)) (mVal 1) (mVal 0)))) (mT (mOp kNe (mCall kGcd (aCons (mVal 0) (aCons (mVal 1) aNil))) (mC (.int 1))))) [.val (.int 6), .val d] pen = .ok true pen := by
    by_cases c : d.isI1 = true
    · rw [c] at t3
      obtain ⟨i, rfl⟩ := isI1_int c
      refine (or_f t3).trans ?_
      by_cases c1 : 1 ≤ i
      · by_cases c2 : i < 6
        · have g : Int.gcd 6 i ≠ 1 := by
            intro g
            have h : (!(decide (1 ≤ i) && (decide (i < 6) && decide (Int.gcd 6 i = 1)))) = true := h
            rw [decide_eq_true c1, decide_eq_true c2, decide_eq_true g] at h
            cases h
          refine (or_f (not_of (t_of (chain_tt (z := .bl true) rfl rfl (by rw [le_int, decide_eq_true c1]) rfl (by rw [lt_int, decide_eq_true c2]))))).trans ?_
          exact t_of (op_of (call_of (acc rfl (acc rfl ac0)) (gcd_ev 6 i)) rfl (by
            rw [ne_int, show (((Int.gcd 6 i : Nat) : Int) == 1) = false from beq_false_of_ne (by omega)]
            rfl))
        · exact or_t (not_of (t_of (chain_tt (z := .bl false) rfl rfl (by rw [le_int, decide_eq_true c1]) rfl (by rw [lt_int, decide_eq_false c2]))))
      · exact or_t (not_of (t_of (chain_ff rfl rfl (by rw [le_int, decide_eq_false c1]))))
    · rw [Bool.eq_false_iff.mpr c] at t3
      exact or_t t3
  show (b_need_fraction [.val (.int 6), .val d] pen).fin = _
  unfold b_need_fraction
  rw [(seq_next (if_skip ((or_f t1).trans t2))).trans ((if_t t).trans (raise_of (acc rfl (acc rfl ac0)) rfl))]
  rfl
theorem rf_q {d : D} (hb : d.bs = true) (h : badQ d = true) (pen : Pen) : m_row_of_fraction [.int 6, d] pen = .err (errB "q" d) pen := by
  have k1 := nf_q hb h pen
  show (b_row_of_fraction [.val (.int 6), .val d, .un, .un] pen).fin = _
  unfold b_row_of_fraction
  rw [seq_err (drop_err ((fn2 rfl rfl).trans k1))]
  rfl
/-! rows -/
def errR (d : D) : Err := ⟨"BadRow", [("row", d), ("what", .str "row")]⟩
def badL (d : D) : Bool := match d with
  | .tup ds => !(decide (1 ≤ ds.length) && (decide (ds.length ≤ 400) && ds.all fun x => match x with
    | .int i => decide (i ≥ 2)
    | _ => false))
  | .lst _ => false
  | _ => true
theorem nl_bad {d : D} (hb : d.bs = true) (h : badL d = true) (hi : ∀ ds, d = .tup ds → ds.length ≤ 1000 ∧ ∀ x ∈ ds, x.bs = true) (q : Pen) : m_need_line [d, .str "row"] q = .err (errR d) q := by
  have k1 := m_list hb q
  let E : Slot → Env := fun s => [.val d, .val (.str "row"), s, .un]
  have t1 : mT (mFn m_is_list (aCons (mVal 0) aNil)) (E .un) q = .ok d.isL q := t_of ((fn1 rfl).trans k1)
  suffices hs : ∃ b, mV (mTAnd (mT (mFn m_is_list (aCons (mVal 0) aNil))) (mTAnd (mT (mChain kLe kLe (mC (.int 1)) (mCall kLen (aCons (mVal 0) aNil)) (mC (.int 400)))) (mT (mFn m_is_indexes (aCons (mVal 0) (aCons (mCall kLen (aCons (mVal 0) aNil)) aNil)))))) (E .un) q = .ok (.bl b) q ∧ mTOr (mTNot (mT (mVal 2))) (mTNot (mT (mCall kAll (aCons (mFr (mComp (mIt (mVal 0)) [3] (gNm 3) tmYes (mOp kGe (mVal 3) (mC (.int 2))))) aNil)))) (E (.val (.bl b))) q = .ok true q by
    obtain ⟨b, h1, h2⟩ := hs
    show (b_need_line (E .un) q).fin = _
    unfold b_need_line
    rw [(seq_next (e2 := E (.val (.bl b))) (q2 := q) (set_of h1 rfl)).trans (seq_err ((if_t h2).trans (raise_of (acc rfl (acc rfl ac0)) rfl)))]
    rfl
  have tn : ∀ b, mTNot (mT (mVal 2)) (E (.val (.bl b))) q = .ok (!b) q := fun b => not_of (t_of rfl)
  by_cases c : d.isL = true
  · have ht : ∃ ds, d = .tup ds := by cases d <;> first | exact ⟨_, rfl⟩ | exact absurd (show false = true from c) (by decide) | exact absurd (show false = true from h) (by decide)
    obtain ⟨ds, rfl⟩ := ht
    obtain ⟨hl, hx⟩ := hi ds rfl
    rw [c] at t1
    have e2 : kLen [.tup ds] = some (.int ds.length) := rfl
    by_cases c1 : 1 ≤ ds.length
    · by_cases c2 : ds.length ≤ 400
      · have t2 : mT (mChain kLe kLe (mC (.int 1)) (mCall kLen (aCons (mVal 0) aNil)) (mC (.int 400))) (E .un) q = .ok true q := t_of (chain_tt rfl (call_of (acc rfl ac0) e2) (by rw [le_int, decide_eq_true (by omega)]) rfl (by rw [le_int, decide_eq_true (by omega)]))
        have k2 := m_indexesG hx hl ds.length q
        rw [decide_eq_true rfl, Bool.true_and] at k2
        have t3 : mT (mFn m_is_indexes (aCons (mVal 0) (aCons (mCall kLen (aCons (mVal 0) aNil)) aNil))) (E .un) q = .ok (ds.all D.isI1) q := t_of ((fn2 rfl (call_of (acc rfl ac0) e2)).trans k2)
        refine ⟨ds.all D.isI1, v_of ((and_t t1).trans ((and_t t2).trans t3)), ?_⟩
        by_cases c3 : ds.all D.isI1 = true
        · obtain ⟨ns, rfl⟩ := ints_ex c3
          rw [c3]
          refine (or_f (tn true)).trans ?_
          have cm : mComp (mIt (mVal 0)) [3] (gNm 3) tmYes (mOp kGe (mVal 3) (mC (.int 2))) (E (.val (.bl true))) q = .ok (ns.map fun x => .bl (decide (x ≥ 2))) q := comp_ofM D.int _ (mit_tup rfl) (by rw [List.length_map] at hl; rw [sizeLine_eq]; omega) fun x _ => ⟨_, rfl, op_of rfl rfl (ge_int _ _)⟩
          have t4 : mTNot (mT (mCall kAll (aCons (mFr (mComp (mIt (mVal 0)) [3] (gNm 3) tmYes (mOp kGe (mVal 3) (mC (.int 2))))) aNil))) (E (.val (.bl true))) q = .ok (!ns.all fun x => decide (x ≥ 2)) q := not_of (t_of (call_of (acc (fr_of cm) ac0) (all_map _ _)))
          refine tm_to t4 ?_
          have h : (!(decide (1 ≤ (ns.map D.int).length) && (decide ((ns.map D.int).length ≤ 400) && (ns.map D.int).all fun x => match x with
            | .int i => decide (i ≥ 2)
            | _ => false))) = true := h
          rw [decide_eq_true c1, decide_eq_true c2, Bool.true_and, Bool.true_and, List.all_map] at h
          exact h
        · rw [Bool.eq_false_iff.mpr c3]
          exact or_t (tn false)
      · have t2 : mT (mChain kLe kLe (mC (.int 1)) (mCall kLen (aCons (mVal 0) aNil)) (mC (.int 400))) (E .un) q = .ok false q := t_of (chain_tt rfl (call_of (acc rfl ac0) e2) (by rw [le_int, decide_eq_true (by omega)]) rfl (by rw [le_int, decide_eq_false (by omega)]))
        exact ⟨false, v_of ((and_t t1).trans (and_f t2)), or_t (tn false)⟩
    · have t2 : mT (mChain kLe kLe (mC (.int 1)) (mCall kLen (aCons (mVal 0) aNil)) (mC (.int 400))) (E .un) q = .ok false q := t_of (chain_ff rfl (call_of (acc rfl ac0) e2) (by rw [le_int, decide_eq_false (by omega)]))
      exact ⟨false, v_of ((and_t t1).trans (and_f t2)), or_t (tn false)⟩
  · rw [Bool.eq_false_iff.mpr c] at t1
    exact ⟨false, v_of (and_f t1), or_t (tn false)⟩
theorem lf_bad {d : D} (hb : d.bs = true) (h : badL d = true) (hi : ∀ ds, d = .tup ds → ds.length ≤ 1000 ∧ ∀ x ∈ ds, x.bs = true) (q : Pen) : m_line_fraction [d] q = .err (errR d) q := by
  have k1 := nl_bad hb h hi q
  show (b_line_fraction [.val d] q).fin = _
  unfold b_line_fraction
  have e : mFn m_need_line (aCons (mVal 0) (aCons (mC (.str "row")) aNil)) [.val d] q = .err (errR d) q := (fn2 rfl rfl).trans k1
  have e2 : mFn m_fraction_of (aCons (mFn m_need_line (aCons (mVal 0) (aCons (mC (.str "row")) aNil))) aNil) [.val d] q = .err (errR d) q := by
    unfold mFn at e ⊢
    rw [aCons, e]
    rfl
  rw [ret_err e2]
  rfl
theorem lt_bad {d : D} (hb : d.bs = true) (h : badL d = true) (hi : ∀ ds, d = .tup ds → ds.length ≤ 1000 ∧ ∀ x ∈ ds, x.bs = true) (q : Pen) : m_line_table [d] q = .err (errR d) q := by
  have k1 := nl_bad hb h hi q
  show (b_line_table [.val d, .un, .un, .un, .un, .un] q).fin = _
  unfold b_line_table
  have e : mFn m_need_line (aCons (mVal 0) (aCons (mC (.str "row")) aNil)) [.val d, .un, .un, .un, .un, .un] q = .err (errR d) q := (fn2 rfl rfl).trans k1
  have e2 : mPar2 1 2 (sVal (mFn m_need_line (aCons (mVal 0) (aCons (mC (.str "row")) aNil))) (sOwn (mLst aNil) sNil)) [.val d, .un, .un, .un, .un, .un] q = .err (errR d) [.val d, .un, .un, .un, .un, .un] q := by
    unfold mPar2 sVal
    rw [e]
    rfl
  rw [seq_err e2]
  rfl
end Lw
end Pu
end

section
set_option maxHeartbeats 4000000
namespace Pu
namespace Lw
open PySem PySem.Spec PyProof.Rows L2
/-! #### the law's end -/
theorem rp_big : Rp (.int (10 ^ 60)) := by
  have h : (D.int (10 ^ 60)).okP = true ∧ (D.int (10 ^ 60)).pr.showable = true ∧ (D.int (10 ^ 60)).pr.shown.length ≤ sizeLine ∧ (D.int (10 ^ 60)).pr.depth < 60 := by decide +kernel
  refine ⟨rfl, ?_, sm_shown _ rfl⟩
  show (if (D.int (10 ^ 60)).okP = true ∧ (D.int (10 ^ 60)).pr.showable = true ∧ (D.int (10 ^ 60)).pr.shown.length ≤ sizeLine ∧ (D.int (10 ^ 60)).pr.depth < 60 then some (D.str (D.int (10 ^ 60)).pr.shown) else none) = _
  exact if_pos h
theorem rep_flat {α : Type} (x : α) : ∀ n : Nat, (List.replicate n [x]).flatten = List.replicate n x
  | 0 => rfl
  | n + 1 => by
    rw [List.replicate_succ, List.flatten_cons, rep_flat x n, List.replicate_succ]
    rfl
theorem rep_two {k : Int} (h1 : 2 ≤ k) (h2 : k ≤ 1000) : kMul (.tup [.int 2]) (.int k) = some (.tup ((List.replicate k.toNat (2 : Int)).map D.int)) := by
  show (if k = 1 then some (D.tup [.int 2]) else if [D.int 2] ≠ [] ∧ 2 ≤ k ∧ k ≤ 1000 ∧ [D.int 2].length ≤ 1000 then some (D.tup (List.replicate k.toNat [D.int 2]).flatten) else none) = _
  rw [if_neg (by omega), if_pos ⟨by simp, h1, h2, by decide⟩, rep_flat, List.map_replicate]
theorem rp_pair {d : D} (h : Od d) : Rp (.tup [.int 2, d]) := rp_row (ds := [.int 2, d]) (fun x hx => by
  simp only [List.mem_cons, List.not_mem_nil, or_false] at hx
  rcases hx with rfl | rfl
  · exact od_int (by decide)
  · exact h) (by simp)
theorem op_pow60 {env : Env} {q : Pen} : mOp kPow (mC (.int 10)) (mC (.int 60)) env q = .ok (.int (10 ^ 60)) q := op_of rfl rfl (pow10 60 (by decide))
theorem shp_row3 {y : Str} (hy : Sm y) : SeqAt.shaped (D.tup [.str "row", .str "row", .str y]).py = true := shaped_strs3 (Sm.lit _) (Sm.lit _) hy
abbrev bodyP : SM := (mIfS (mT (mOp kNe (mLam 3 b__law_fault (mFn m_row_of_fraction (aCons (mVal 11) (aCons (mC .non) aNil)))) (mTup (aCons (mC (.str "number")) (aCons (mC (.str "p")) (aCons (mCall kRepr (aCons (mVal 11) aNil)) aNil)))))) (mRet (mC (.bl false))) mNext)
abbrev bodyQ : SM := (mIfS (mT (mOp kNe (mLam 3 b__law_fault (mFn m_row_of_fraction (aCons (mC (.int 6)) (aCons (mVal 11) aNil)))) (mTup (aCons (mC (.str "number")) (aCons (mC (.str "q")) (aCons (mCall kRepr (aCons (mVal 11) aNil)) aNil)))))) (mRet (mC (.bl false))) mNext)
abbrev bodyR1 : SM := (mIfS (mT (mOp kNe (mLam 3 b__law_fault (mCallV 12 [("line_fraction", m_line_fraction), ("line_table", m_line_table)] (aCons (mVal 11) aNil))) (mTup (aCons (mC (.str "row")) (aCons (mC (.str "row")) (aCons (mCall kRepr (aCons (mVal 11) aNil)) aNil)))))) (mRet (mC (.bl false))) mNext)
abbrev bodyR : SM := mFor (mIt (mTup (aCons (mC (.fn "line_fraction")) (aCons (mC (.fn "line_table")) aNil)))) (gNm 12) bodyR1
section
variable (s2 s3 s4 s5 s6 s7 s8 s9 s10 : Slot)
theorem frz_11 {env : Env} {d : D} (h : env[11]? = some (.val d)) : (frzE env)[11]? = some (.val d) := by
  unfold frzE
  rw [List.getElem?_map, h]
  rfl
theorem p_one {d : D} (rp : Rp d) (hb : d.bs = true) (h : badP d = true) (s12 : Slot) (q : Pen) : bodyP [.un, .val .pen, s2, s3, s4, s5, s6, s7, s8, s9, s10, .val d, s12] q = .next [.un, .val .pen, s2, s3, s4, s5, s6, s7, s8, s9, s10, .val d, s12] q := by
  let E : Env := [.un, .val .pen, s2, s3, s4, s5, s6, s7, s8, s9, s10, .val d, s12]
  have f := fault_BadNumber (.str "p") d _ rp.rep rfl rfl rp.noX rp.noC (cb := mFn m_row_of_fraction (aCons (mVal 11) (aCons (mC .non) aNil))) (env := E) (q := q) (q2 := q) ((fn2 rfl rfl).trans (rf_p hb h .non q))
  exact if_skip (t_of (op_of f (tup_of (acc rfl (acc rfl (acc (call_of (acc rfl ac0) rp.rep) ac0))) (by simp)) (ne_refl (shp_num (Sm.lit _) rp.sm))))
theorem q_one {d : D} (rp : Rp d) (hb : d.bs = true) (h : badQ d = true) (s12 : Slot) (q : Pen) : bodyQ [.un, .val .pen, s2, s3, s4, s5, s6, s7, s8, s9, s10, .val d, s12] q = .next [.un, .val .pen, s2, s3, s4, s5, s6, s7, s8, s9, s10, .val d, s12] q := by
  let E : Env := [.un, .val .pen, s2, s3, s4, s5, s6, s7, s8, s9, s10, .val d, s12]
  have f := fault_BadNumber (.str "q") d _ rp.rep rfl rfl rp.noX rp.noC (cb := mFn m_row_of_fraction (aCons (mC (.int 6)) (aCons (mVal 11) aNil))) (env := E) (q := q) (q2 := q) ((fn2 rfl rfl).trans (rf_q hb h q))
  exact if_skip (t_of (op_of f (tup_of (acc rfl (acc rfl (acc (call_of (acc rfl ac0) rp.rep) ac0))) (by simp)) (ne_refl (shp_num (Sm.lit _) rp.sm))))
theorem callV_of {env : Env} {i : Nat} {fs : List (Str × FM)} {a : AM} {x : Str} {m : FM} {q : Pen} (h : env[i]? = some (.val (.fn x))) (hm : fs.lookup x = some m) : mCallV i fs a env q = mFn m a env q := by
  unfold mCallV
  rw [h]
  show (match fs.lookup x with | some m => mFn m a env q | none => .bad) = _
  rw [hm]
theorem r_one {d : D} (rp : Rp d) (hb : d.bs = true) (h : badL d = true) (hi : ∀ ds, d = .tup ds → ds.length ≤ 1000 ∧ ∀ x ∈ ds, x.bs = true) (s12 : Slot) (q : Pen) : ∃ s12', bodyR [.un, .val .pen, s2, s3, s4, s5, s6, s7, s8, s9, s10, .val d, s12] q = .next [.un, .val .pen, s2, s3, s4, s5, s6, s7, s8, s9, s10, .val d, s12'] q := by
  let E : Slot → Env := fun s12 => [.un, .val .pen, s2, s3, s4, s5, s6, s7, s8, s9, s10, .val d, s12]
  have one : ∀ (x : Str) (m : FM), List.lookup x [("line_fraction", m_line_fraction), ("line_table", m_line_table)] = some m → m [d] q = .err (errR d) q → bodyR1 (E (.val (.fn x))) q = .next (E (.val (.fn x))) q := fun x m hm he => by
    have f := fault_BadRow (.str "row") d _ rp.rep rfl rfl rp.noX rp.noC (cb := mCallV 12 [("line_fraction", m_line_fraction), ("line_table", m_line_table)] (aCons (mVal 11) aNil)) (env := E (.val (.fn x))) (q := q) (q2 := q) ((callV_of rfl hm).trans ((fn1 rfl).trans he))
    exact if_skip (t_of (op_of f (tup_of (acc rfl (acc rfl (acc (call_of (acc rfl ac0) rp.rep) ac0))) (by simp)) (ne_refl (shp_row3 rp.sm))))
  refine ⟨.val (.fn "line_table"), ?_⟩
  refine (for_of (mit_tup (tup_of (acc rfl (acc rfl ac0)) (by simp)))).trans ?_
  refine (loop_next rfl (one "line_fraction" m_line_fraction rfl (lf_bad hb h hi q))).trans ?_
  exact (loop_next rfl (one "line_table" m_line_table rfl (lt_bad hb h hi q))).trans rfl
end
theorem loopS_two {g : GM} {b : SM} (E : Slot → Slot → Env) (hg : ∀ d s t, g d (E s t) = some (E (.val d) t)) : ∀ (vs : List D) (s t : Slot) (q : Pen), (∀ v ∈ vs, ∀ t q, ∃ t', b (E (.val v) t) q = .next (E (.val v) t') q) → ∃ s' t', loopS g b vs (E s t) q = .next (E s' t') q
  | [], s, t, q, _ => ⟨s, t, rfl⟩
  | v :: vs, s, t, q, h => by
    obtain ⟨t1, h1⟩ := h v List.mem_cons_self t q
    obtain ⟨s', t', e⟩ := loopS_two E hg vs (.val v) t1 q fun x hx => h x (List.mem_cons_of_mem _ hx)
    exact ⟨s', t', (loop_next (hg v s t) h1).trans e⟩
theorem laps (q : Pen) : ∃ s2 s3 s4 s6 s7 s8 s9 q', mFor (mRng1 (mC (.int 4))) (gNm 2) bodyL [.un, .val .pen, .un, .un, .un, .un, .un, .un, .un, .un, .un, .un, .un] q = .next [.un, .val .pen, s2, s3, s4, .un, s6, s7, s8, s9, .un, .un, .un] q' := by
  let I : Nat → Env → Pen → Prop := fun _ env _ => ∃ s2 s3 s4 s6 s7 s8 s9, env = [.un, .val .pen, s2, s3, s4, .un, s6, s7, s8, s9, .un, .un, .un]
  obtain ⟨e2, q2, h1, h2⟩ := loop_inv (g := gNm 2) (b := bodyL) D.int I (rgI 4) 0 [.un, .val .pen, .un, .un, .un, .un, .un, .un, .un, .un, .un, .un, .un] q ⟨_, _, _, _, _, _, _, rfl⟩ fun i hi env q ⟨s2, s3, s4, s6, s7, s8, s9, e⟩ => by
    subst e
    obtain ⟨a, b, c, d, f, g, q', st⟩ := lap_step (.val (.int (rgI 4)[i])) s3 s4 s6 s7 s8 s9 q
    exact ⟨_, rfl, _, _, .inl ‹_›, _, _, _, _, _, _, _, rfl⟩
  obtain ⟨s2, s3, s4, s6, s7, s8, s9, rfl⟩ := h2
  exact ⟨s2, s3, s4, s6, s7, s8, s9, q2, (for_of (rng1_int (n := 4) rfl (by decide) (by decide))).trans h1⟩
theorem hm2 (ns : List Int) (h : okNs ns) : ∃ q, b2_law (envL nLaw ipLaw) (pen0 ns) = .ret (.bl true) q := by
  obtain ⟨s2, s3, s4, s6, s7, s8, s9, q1, hl⟩ := laps (pen0 ns)
  have b40 : (10 : Int) ^ 40 ≤ 10 ^ 45 ∧ (10 : Int) ^ 40 + 1000 < 10 ^ 60 := by decide +kernel
  obtain ⟨r, q2, d2, r0, r1⟩ := m_drawG q1 (10 ^ 40) (by decide +kernel) (ten_gdiv (by decide +kernel) b40.1)
  let E : Slot → Slot → Env := fun s11 s12 => [.un, .val .pen, s2, s3, s4, .un, s6, s7, s8, s9, .val (.int (500 + r)), s11, s12]
  have e2 : mSet (mOp kAdd (mC (.int 500)) (mFn m__law_draw (aCons (mVal 1) (aCons (mOp kPow (mC (.int 10)) (mC (.int 40))) aNil)))) (gNm 10) [.un, .val .pen, s2, s3, s4, .un, s6, s7, s8, s9, .un, .un, .un] q1 = .next (E .un .un) q2 := set_of (op_of rfl ((fn2 rfl (op_of rfl rfl (pow10 40 (by decide)))).trans d2) (add_int _ _)) rfl
  obtain ⟨k, hk⟩ := Int.eq_ofNat_of_zero_le (show 0 ≤ 500 + r - 1 by omega)
  have hk1 : (500 + r : Int) = (k : Int) + 1 := by omega
  have ex := exN_two 401 k
  have gc : Int.gcd (500 + r) (500 + r - 1) = 1 := by
    rw [hk, hk1]
    have : Nat.gcd (k + 1) k = 1 := by simp
    exact this
  have rf := m_rowfrac (p := 500 + r) (q := 500 + r - 1) (by omega) (by omega) (by omega) (by omega) gc q2
  have ex2 : exN 401 (500 + r) (500 + r - 1) = List.replicate (min 401 k) 2 := by
    rw [hk, hk1]
    exact ex
  rw [if_neg (by rw [ex2, List.length_replicate]; omega)] at rf
  have f3 := fault_TooMany (.str "row") (.int 401) (.int 400) rfl rfl rfl rfl rfl rfl (cb := mFn m_row_of_fraction (aCons (mVal 10) (aCons (mOp kSub (mVal 10) (mC (.int 1))) aNil))) (env := E .un .un) (q := q2) (q2 := q2) ((fn2 rfl (op_of rfl rfl (sub_int _ _))).trans rf)
  have e3 : mIfS (mT (mOp kNe (mLam 3 b__law_fault (mFn m_row_of_fraction (aCons (mVal 10) (aCons (mOp kSub (mVal 10) (mC (.int 1))) aNil)))) (mTup (aCons (mC (.str "many")) (aCons (mC (.str "row")) (aCons (mC (.int 401)) (aCons (mC (.int 400)) aNil))))))) (mRet (mC (.bl false))) mNext (E .un .un) q2 = .next (E .un .un) q2 := if_skip (t_of (op_of f3 (tup_of (acc rfl (acc rfl (acc rfl (acc rfl ac0)))) (by simp)) (ne_refl shp_many)))
  have i4 : mIt (mFr (mLst (aCons (mC (.int 0)) (aCons (mC (.int 1)) (aCons (mNeg (mC (.int 3))) (aCons (mC .non) (aCons (mC (.bl true)) (aCons (mC (.str "3")) (aCons (mOp kPow (mC (.int 10)) (mC (.int 60))) aNil))))))))) (E .un .un) q2 = .ok [.int 0, .int 1, .int (-3), .non, .bl true, .str "3", .int (10 ^ 60)] q2 := mit_lst (fr_of (lst_of (acc rfl (acc rfl (acc (neg_of rfl) (acc rfl (acc rfl (acc rfl (acc op_pow60 ac0))))))) (by simp)))
  obtain ⟨s4', l4⟩ := loopS_all (g := gNm 11) (b := bodyP) (fun s => E s .un) (fun _ _ => rfl) [.int 0, .int 1, .int (-3), .non, .bl true, .str "3", .int (10 ^ 60)] .un q2 fun v hv q => by
    simp only [List.mem_cons, List.not_mem_nil, or_false] at hv
    rcases hv with rfl | rfl | rfl | rfl | rfl | rfl | rfl
    · exact p_one _ _ _ _ _ _ _ _ _ (od_int (by decide)).rp rfl (by decide +kernel) _ q
    · exact p_one _ _ _ _ _ _ _ _ _ (od_int (by decide)).rp rfl (by decide +kernel) _ q
    · exact p_one _ _ _ _ _ _ _ _ _ (od_int (by decide)).rp rfl (by decide +kernel) _ q
    · exact p_one _ _ _ _ _ _ _ _ _ od_non.rp rfl rfl _ q
    · exact p_one _ _ _ _ _ _ _ _ _ (od_bl _).rp rfl rfl _ q
    · exact p_one _ _ _ _ _ _ _ _ _ (od_str (Sm.lit _) (by decide)).rp rfl rfl _ q
    · exact p_one _ _ _ _ _ _ _ _ _ rp_big rfl (by decide +kernel) _ q
  have e4 := (for_of2 i4).trans l4
  have i5 : mIt (mFr (mLst (aCons (mC (.int 0)) (aCons (mC (.int 6)) (aCons (mC (.int 7)) (aCons (mC (.int 3)) (aCons (mNeg (mC (.int 1))) (aCons (mC .non) (aCons (mC (.bl true)) (aCons (mC (.str "1")) aNil)))))))))) (E s4' .un) q2 = .ok [.int 0, .int 6, .int 7, .int 3, .int (-1), .non, .bl true, .str "1"] q2 := mit_lst (fr_of (lst_of (acc rfl (acc rfl (acc rfl (acc rfl (acc (neg_of rfl) (acc rfl (acc rfl (acc rfl ac0)))))))) (by simp)))
  obtain ⟨s5', l5⟩ := loopS_all (g := gNm 11) (b := bodyQ) (fun s => E s .un) (fun _ _ => rfl) [.int 0, .int 6, .int 7, .int 3, .int (-1), .non, .bl true, .str "1"] s4' q2 fun v hv q => by
    simp only [List.mem_cons, List.not_mem_nil, or_false] at hv
    rcases hv with rfl | rfl | rfl | rfl | rfl | rfl | rfl | rfl
    · exact q_one _ _ _ _ _ _ _ _ _ (od_int (by decide)).rp rfl (by decide +kernel) _ q
    · exact q_one _ _ _ _ _ _ _ _ _ (od_int (by decide)).rp rfl (by decide +kernel) _ q
    · exact q_one _ _ _ _ _ _ _ _ _ (od_int (by decide)).rp rfl (by decide +kernel) _ q
    · exact q_one _ _ _ _ _ _ _ _ _ (od_int (by decide)).rp rfl (by decide +kernel) _ q
    · exact q_one _ _ _ _ _ _ _ _ _ (od_int (by decide)).rp rfl (by decide +kernel) _ q
    · exact q_one _ _ _ _ _ _ _ _ _ od_non.rp rfl rfl _ q
    · exact q_one _ _ _ _ _ _ _ _ _ (od_bl _).rp rfl rfl _ q
    · exact q_one _ _ _ _ _ _ _ _ _ (od_str (Sm.lit _) (by decide)).rp rfl rfl _ q
  have e5 := (for_of2 i5).trans l5
  have i6 : mIt (mFr (mLst (aCons (mC .non) (aCons (mC (.int 3)) (aCons (mTup aNil) (aCons (mTup (aCons (mC (.int 1)) aNil)) (aCons (mTup (aCons (mC (.int 2)) (aCons (mC (.int 1)) aNil))) (aCons (mTup (aCons (mC (.int 2)) (aCons (mC .non) aNil))) (aCons (mTup (aCons (mC (.int 2)) (aCons (mC (.bl true)) aNil))) (aCons (mC (.str "23")) (aCons (mOp kMul (mTup (aCons (mC (.int 2)) aNil)) (mC (.int 401))) (aCons (mTup (aCons (mC (.int 2)) (aCons (mTup (aCons (mC (.int 2)) (aCons (mC (.int 3)) aNil))) aNil))) aNil)))))))))))) (E s5' .un) q2 = .ok [.non, .int 3, .tup [], .tup [.int 1], .tup [.int 2, .int 1], .tup [.int 2, .non], .tup [.int 2, .bl true], .str "23", .tup ((List.replicate 401 2).map D.int), .tup [.int 2, .tup [.int 2, .int 3]]] q2 := mit_lst (fr_of (lst_of (acc rfl (acc rfl (acc (tup_of ac0 (by simp)) (acc (tup_of (acc rfl ac0) (by simp)) (acc (tup_of (acc rfl (acc rfl ac0)) (by simp)) (acc (tup_of (acc rfl (acc rfl ac0)) (by simp)) (acc (tup_of (acc rfl (acc rfl ac0)) (by simp)) (acc rfl (acc (op_of (tup_of (acc rfl ac0) (by simp)) rfl (rep_two (by decide) (by decide))) (acc (tup_of (acc rfl (acc (tup_of (acc rfl (acc rfl ac0)) (by simp)) ac0)) (by simp)) ac0)))))))))) (by simp)))
  obtain ⟨s6', t6', l6⟩ := loopS_two (g := gNm 11) (b := bodyR) E (fun _ _ _ => rfl) [.non, .int 3, .tup [], .tup [.int 1], .tup [.int 2, .int 1], .tup [.int 2, .non], .tup [.int 2, .bl true], .str "23", .tup ((List.replicate 401 2).map D.int), .tup [.int 2, .tup [.int 2, .int 3]]] s5' .un q2 fun v hv t q => by
    have ns : ∀ {d : D}, (∀ ds, d ≠ .tup ds) → ∀ ds, d = .tup ds → ds.length ≤ 1000 ∧ ∀ x ∈ ds, x.bs = true := fun h ds e => absurd e (h ds)
    have tp : ∀ {es : List D}, es.length ≤ 1000 → (∀ x ∈ es, x.bs = true) → ∀ ds, D.tup es = .tup ds → ds.length ≤ 1000 ∧ ∀ x ∈ ds, x.bs = true := fun h1 h2 ds e => by
      injection e with e
      subst e
      exact ⟨h1, h2⟩
    simp only [List.mem_cons, List.not_mem_nil, or_false] at hv
    rcases hv with rfl | rfl | rfl | rfl | rfl | rfl | rfl | rfl | rfl | rfl
    · exact r_one _ _ _ _ _ _ _ _ _ od_non.rp rfl rfl (ns fun _ e => by cases e) t q
    · exact r_one _ _ _ _ _ _ _ _ _ (od_int (by decide)).rp rfl rfl (ns fun _ e => by cases e) t q
    · exact r_one _ _ _ _ _ _ _ _ _ (od_ints (ns := []) (by simp) (by decide)).rp rfl rfl (tp (by simp) (by simp)) t q
    · exact r_one _ _ _ _ _ _ _ _ _ (od_ints (ns := [1]) (by simp) (by decide)).rp rfl (by decide +kernel) (tp (by simp) (by simp [D.bs])) t q
    · exact r_one _ _ _ _ _ _ _ _ _ (od_ints (ns := [2, 1]) (by simp) (by decide)).rp rfl (by decide +kernel) (tp (by simp) (by simp [D.bs])) t q
    · exact r_one _ _ _ _ _ _ _ _ _ (rp_pair od_non) rfl (by decide +kernel) (tp (by simp) (by simp [D.bs])) t q
    · exact r_one _ _ _ _ _ _ _ _ _ (rp_pair (od_bl _)) rfl (by decide +kernel) (tp (by simp) (by simp [D.bs])) t q
    · exact r_one _ _ _ _ _ _ _ _ _ (od_str (Sm.lit _) (by decide)).rp rfl rfl (ns fun _ e => by cases e) t q
    · exact r_one _ _ _ _ _ _ _ _ _ (od_ints (fun n hn => by rw [(List.mem_replicate.mp hn).2]; decide) (by rw [List.length_replicate]; decide)).rp rfl (by decide +kernel) (tp (by rw [List.length_map, List.length_replicate]; decide) (fun x hx => by
        obtain ⟨i, _, rfl⟩ := List.mem_map.mp hx
        rfl)) t q
    · exact r_one _ _ _ _ _ _ _ _ _ (rp_pair (od_ints (ns := [2, 3]) (by simp) (by decide))) rfl (by decide +kernel) (tp (by simp) (by simp [D.bs])) t q
  have e6 := (for_of2 i6).trans l6
  have rf2 := m_rowfrac (p := 401) (q := 400) (by decide) (by decide +kernel) (by decide) (by decide) (by decide +kernel) q2
  have x2 : exN 401 401 400 = List.replicate 400 2 := exN_two 401 400
  rw [x2, if_pos (by rw [List.length_replicate]; decide)] at rf2
  have lf2 := m_linefrac (d := .tup ([3, 2].map D.int)) (ns := [3, 2]) (.inr rfl) (by decide) (by decide) (fun x hx => by
    simp only [List.mem_cons, List.not_mem_nil, or_false] at hx
    rcases hx with rfl | rfl <;> decide) (fun x hx => by
    simp only [List.mem_cons, List.not_mem_nil, or_false] at hx
    rcases hx with rfl | rfl <;> decide) q2
  have t7 : mT (mFn (m__law_is 3) (aCons (mFn m_row_of_fraction (aCons (mC (.int 401)) (aCons (mC (.int 400)) aNil))) (aCons (mOp kMul (mTup (aCons (mC (.int 2)) aNil)) (mC (.int 400))) aNil))) (E s6' t6') q2 = .ok true q2 := t_of ((fn2 ((fn2 rfl rfl).trans rf2) (op_of (tup_of (acc rfl ac0) (by simp)) rfl (rep_two (k := 400) (by decide) (by decide)))).trans (is_row 1 (ns := List.replicate 400 2) (by rw [List.length_replicate]; decide) q2))
  have t8 : mT (mFn (m__law_is 3) (aCons (mFn m_line_fraction (aCons (mTup (aCons (mC (.int 3)) (aCons (mC (.int 2)) aNil))) aNil)) (aCons (mTup (aCons (mC (.int 5)) (aCons (mC (.int 2)) aNil))) aNil))) (E s6' t6') q2 = .ok true q2 := t_of ((fn2 ((fn1 (tup_of (acc rfl (acc rfl ac0)) (by simp))).trans lf2) (tup_of (acc rfl (acc rfl ac0)) (by simp))).trans (is_row 1 (ns := [5, 2]) (by decide) q2))
  refine ⟨q2, ?_⟩
  have e0 : envL nLaw ipLaw = [.un, .val .pen, .un, .un, .un, .un, .un, .un, .un, .un, .un, .un, .un] := rfl
  rw [e0]
  unfold b2_law
  exact (seq_next hl).trans ((seq_next e2).trans ((seq_next e3).trans ((seq_next e4).trans ((seq_next e5).trans ((seq_next e6).trans (ret_of (v_of ((and_t t7).trans t8))))))))
theorem hm1 (ns : List Int) (h : okNs ns) : b1_law (env0 nLaw [.scr ns]) emptyPen = .next ((env0 nLaw [.scr ns]).set ipLaw (.val (.dct (penDs (pen0 ns))))) emptyPen := by
  have e := m_pen ns h emptyPen
  show (mSet (mFn m__law_pen (aCons (mVal 0) aNil)) (gNm 1)) _ _ = _
  unfold mSet mFn
  have ea : aCons (mVal 0) aNil (env0 nLaw [.scr ns]) emptyPen = .ok [.scr ns] emptyPen := rfl
  rw [ea, bind_ok, e]
  rfl
end Lw
end Pu
end

set_option maxHeartbeats 0
namespace Pu
namespace Lw
open PySem PySem.Spec PyProof.Rows L2
theorem law_is (w : World) (mg : Str → Option Value) (fa' : Addr) (h : Heap) (Y : hk.says w h) (G : h.Ns mainGlobals mg) (hmg : mg ("law" : Str) = some (.ref fa')) : ∃ K : PySem.W.Frag, K.In h ∧ LawIs PySem.Challenge.rw_flowwebs_k30_whole_fractions_of_lines w K 8 63 "script" mg fa' h := by
  obtain ⟨⟨K, KX, c⟩, m⟩ := Y
  have f : FX K mg := ⟨⟨h, KX, G⟩, c.t.d, c.more⟩
  have e := hmg.symm.trans (f.glo 29)
  cases e
  obtain ⟨fd, hb, F⟩ := fn_law_ (C := ⟨K, mg, none, 0, ttT tfL K, none, none, ltL⟩) (P := (PySem.Challenge.rw_flowwebs_k30_whole_fractions_of_lines).prog) (wd := w) f rfl rfl hm1 hm2
  have tq := (exO_ok (C := ⟨K, mg, none, 0, ttT tfL K, none, none, ltL⟩) f).2.2.2.2.1
  have tfd : ∀ p ∈ tfL, p.1 ∈ tfD := by decide +kernel
  refine ⟨K, KX, ⟨true, fd, tfL.map fun p => He.cT K p.1, spLaw ⟨K, mg, none, 0, ttT tfL K, none, none, ltL⟩ okNs, (fun p hp => ?_), hb, (ex1 (C := ⟨K, mg, none, 0, ttT tfL K, none, none, ltL⟩) f).2.2.2.2.2.1, m, fun H a ns hM hl hbt hT hS hA => ⟨a, ns, rfl, hS, hA, ⟨hl, hbt⟩, ⟨fun p hp => ?_, hM, fun _ _ _ _ z => by cases z⟩, fun _ => rfl⟩, fun base _ _ hT => F base ⟨tt_of tq rfl rfl hT, rfl⟩⟩⟩
  · obtain ⟨r, hr, rfl⟩ := List.mem_map.mp hp
    exact ⟨c.empty _ (tfd r hr), c.out _ (tfd r hr), PySem.W.codeHd_of_K KX (c.hd _ (tfd r hr))⟩
  · obtain ⟨r, hr, rfl⟩ := List.mem_map.mp hp
    exact LamX.TabS.nil (hT _ (List.mem_map.mpr ⟨r, hr, rfl⟩))
end Lw
end Pu
open PySem PySem.W PySem.Calls PyProof.Rows
theorem PySem.Challenge.cw_flowwebs_k30_whole_fractions_of_lines_holds : PySem.Challenge.rw_flowwebs_k30_whole_fractions_of_lines.Holds := by
  w_on; o_law
  refine HandSHeadRun.head_imp (r := OpenLaw.row PySem.Challenge.rw_flowwebs_k30_whole_fractions_of_lines) (q := view (OpenLaw.row PySem.Challenge.rw_flowwebs_k30_whole_fractions_of_lines).prog [0, 54]) (H := Pu.Lw.hk) (ob := Pu.Lw.ob) (M := 20000) (loose := Pu.Lw.nms) (d := HandSHeadRun.topDef (OpenLaw.row PySem.Challenge.rw_flowwebs_k30_whole_fractions_of_lines).prog 54) (kwd := []) Pu.Lw.ob_eq
    Pu.Lw.run (by kernel_rfl) (by kernel_rfl) (by kernel_rfl) (by rfl) (by first | assumption | decide +kernel) (by decide +kernel) ⟨rfl, rfl, rfl, rfl, rfl, by decide +kernel⟩ ?hw ?hc
  case hw => w_witness2
  case hc =>
    refine Pu.law_walk (l := PySem.Challenge.rw_flowwebs_k30_whole_fractions_of_lines) (n := 63) (k := 8) (x := "script") rfl (by decide) (by kernel_rfl) ⟨rfl, by decide, by decide⟩ ?F
    intro w mg fa h Y G hmg0
    have hmg : mg ("law" : PySem.Str) = some (.ref fa) := by
      have e : (HandSHeadRun.topDef (OpenLaw.row PySem.Challenge.rw_flowwebs_k30_whole_fractions_of_lines).prog 54).name = ("law" : PySem.Str) := by kernel_rfl
      rw [← e]
      exact hmg0
    exact Pu.Lw.law_is w mg fa h Y G hmg
