import PyProof.Rows.All
import Wide.All
import OpenK.AllK
import Wide.FinOn
import HandS.ForMost
import HandS.Wide
import KE.KDictKeyed
import KE.KeyNested
import HandS.TupAny
import HandS.TupMul
import HandS.TupLe
import HandS.WideBits
import HandS.Deep
import HandS.Star
import HandS.IsInst
import KE.GoesMore
import KE.GoesEnum
import HandS.Zip
import PyProof.ReprRoads
import PyProof.CallFns
import HandS.Ends
import HandS.SetFor
import HandS.Strs
import HandS.Style
import KE.GoesEnumKw
import PySem.Challenge.RW_torusfloors_k86_whole_boxes
import PyProof.ReprLen
set_option Elab.async false
set_option linter.all false
set_option maxRecDepth 100000
set_option maxHeartbeats 4000000
/-! A value-level layer over the judgements: data (PyData) in place of addresses, with tags that say who may change what. -/
namespace Ev
open PySem L2

/-- a raw object, told whole -/
def rawO (a : Addr) (o : Obj) : HO := .ext fun h => h.get? a = some o
def kD : L2.Key → PyData
  | .inl i => .int i
  | .inr x => .str x

section
variable (P : Program) (w : World) (K : PySem.W.Frag)
abbrev nK := nestedKind P w
mutual
/-- the value reads as the data in H, and no list, dict or tuple that N names is met on the way -/
inductive Den (N : Addr → Prop) (H : Hp) : V → PyData → Prop
  | non : Den N H .non .none
  | bl (b : Bool) : Den N H (.bl b) (.bool b)
  | int (i : Int) : Den N H (.int i) (.int i)
  | str (x : Str) : Den N H (.str x) (.str x)
  | tup {a : Addr} {vs : List V} {ds : List PyData} : (H a = some (.tup vs) ∧ ¬ N a) ∨ SqT K (fun _ => none) a vs → Dens N H vs ds → Den N H (.ref a) (.tuple ds)
  | lst {a : Addr} {vs : List V} {ds : List PyData} : H a = some (.lst vs) → ¬ N a → Dens N H vs ds → Den N H (.ref a) (.list ds)
  | dK {a : Addr} {es : List (L2.Key × V)} {ds : List PyData} : Rd H a (.dK es) → ¬ N a → Dens N H (es.map (·.2)) ds → Den N H (.ref a) (.dict ((es.map fun p => kD p.1).zip ds))
  | dN {a : Addr} {o : Obj} {es : Array DictEntry} {ep : Nat} {xs : List (NestedKey × Addr × Value)} {kvs : List (PyData × PyData)} :
      H a = some (rawO a o) → ¬ N a → (a == sysModules) = false → o.ExactDict → o.data = .dict es ep → es.toList = xs.map (entryOfKey (nestedKind P w)) → (xs.map (·.1)).Nodup → xs.length ≤ sizeLine →
      Ents N H xs kvs → Den N H (.ref a) (.dict kvs)
inductive Dens (N : Addr → Prop) (H : Hp) : List V → List PyData → Prop
  | nil : Dens N H [] []
  | cons {v : V} {vs : List V} {d : PyData} {ds : List PyData} : Den N H v d → Dens N H vs ds → Dens N H (v :: vs) (d :: ds)
inductive Ents (N : Addr → Prop) (H : Hp) : List (NestedKey × Addr × Value) → List (PyData × PyData) → Prop
  | nil : Ents N H [] []
  | cons {k : NestedKey} {b : Addr} {u : Value} {v : V} {d : PyData} {xs : List (NestedKey × Addr × Value)} {kvs : List (PyData × PyData)} :
      Den N H (.ref b) k.data → k.depth ≤ 8 → RelV v u → Den N H v d → Ents N H xs kvs → Ents N H ((k, b, u) :: xs) ((k.data, d) :: kvs)
end
/-- an object that may be changed: what it holds is clean -/
inductive Ob (N : Addr → Prop) (H : Hp) (a : Addr) : PyData → Prop
  | lst {vs : List V} {ds : List PyData} : H a = some (.lst vs) → Dens P w K N H vs ds → Ob N H a (.list ds)
  | dK {es : List (L2.Key × V)} {ds : List PyData} : H a = some (.dK es) → Dens P w K N H (es.map (·.2)) ds → Ob N H a (.dict ((es.map fun p => kD p.1).zip ds))
  | dN {o : Obj} {es : Array DictEntry} {ep : Nat} {xs : List (NestedKey × Addr × Value)} {kvs : List (PyData × PyData)} :
      H a = some (rawO a o) → (a == sysModules) = false → o.ExactDict → o.data = .dict es ep → es.toList = xs.map (entryOfKey (nestedKind P w)) → (xs.map (·.1)).Nodup → xs.length ≤ sizeLine →
      Ents P w K N H xs kvs → Ob N H a (.dict kvs)
end

section
variable {P : Program} {w : World} {K : PySem.W.Frag} {N N' : Addr → Prop} {H H' : Hp}
mutual
theorem Den.imp (hn : ∀ a u, ¬ N a → H a = some u → ¬ N' a ∧ H' a = some u) : ∀ {v : V} {d : PyData}, Den P w K N H v d → Den P w K N' H' v d
  | _, _, .non => .non
  | _, _, .bl b => .bl b
  | _, _, .int i => .int i
  | _, _, .str x => .str x
  | _, _, .tup h t => .tup (by
      rcases h with ⟨h, n⟩ | h
      · exact .inl (let ⟨p, q⟩ := hn _ _ n h; ⟨q, p⟩)
      · exact .inr h) (Dens.imp hn t)
  | _, _, .lst h n t => .lst (hn _ _ n h).2 (hn _ _ n h).1 (Dens.imp hn t)
  | _, _, .dK h n t => .dK (by
      rcases h with h | ⟨o, h⟩
      · exact .inl (hn _ _ n h).2
      · exact .inr ⟨o, (hn _ _ n h).2⟩) (by
      rcases h with h | ⟨o, h⟩
      · exact (hn _ _ n h).1
      · exact (hn _ _ n h).1) (Dens.imp hn t)
  | _, _, .dN h n y e1 e2 e3 e4 e5 t => .dN (hn _ _ n h).2 (hn _ _ n h).1 y e1 e2 e3 e4 e5 (Ents.imp hn t)
theorem Dens.imp (hn : ∀ a u, ¬ N a → H a = some u → ¬ N' a ∧ H' a = some u) : ∀ {vs : List V} {ds : List PyData}, Dens P w K N H vs ds → Dens P w K N' H' vs ds
  | _, _, .nil => .nil
  | _, _, .cons h t => .cons (Den.imp hn h) (Dens.imp hn t)
theorem Ents.imp (hn : ∀ a u, ¬ N a → H a = some u → ¬ N' a ∧ H' a = some u) : ∀ {xs : List (NestedKey × Addr × Value)} {kvs : List (PyData × PyData)}, Ents P w K N H xs kvs → Ents P w K N' H' xs kvs
  | _, _, .nil => .nil
  | _, _, .cons h1 h2 h3 h4 t => .cons (Den.imp hn h1) h2 h3 (Den.imp hn h4) (Ents.imp hn t)
end
/-- what is clean of N is kept -/
def Kp (N : Addr → Prop) (H H' : Hp) : Prop := ∀ a u, ¬ N a → H a = some u → H' a = some u
theorem Kp.refl : Kp N H H := fun _ _ _ h => h
theorem Kp.trans {H2 : Hp} (a : Kp N H H') (b : Kp N H' H2) : Kp N H H2 := fun x u n h => b x u n (a x u n h)
theorem Kp.mono (h : ∀ a, N a → N' a) (k : Kp N H H') : Kp N' H H' := fun a u n e => k a u (fun z => n (h a z)) e
theorem Den.keep {v : V} {d : PyData} (k : Kp N H H') (h : Den P w K N H v d) : Den P w K N H' v d := h.imp fun a u n e => ⟨n, k a u n e⟩
theorem Dens.keep {vs : List V} {ds : List PyData} (k : Kp N H H') (h : Dens P w K N H vs ds) : Dens P w K N H' vs ds := h.imp fun a u n e => ⟨n, k a u n e⟩
theorem Den.mono {v : V} {d : PyData} (hn : ∀ a, N' a → N a) (h : Den P w K N H v d) : Den P w K N' H v d := h.imp fun a u n e => ⟨fun z => n (hn a z), e⟩
theorem Dens.mono {vs : List V} {ds : List PyData} (hn : ∀ a, N' a → N a) (h : Dens P w K N H vs ds) : Dens P w K N' H vs ds := h.imp fun a u n e => ⟨fun z => n (hn a z), e⟩
theorem Ob.imp {a : Addr} {d : PyData} (hn : ∀ a u, ¬ N a → H a = some u → ¬ N' a ∧ H' a = some u) (ha : ∀ u, H a = some u → H' a = some u) (h : Ob P w K N H a d) : Ob P w K N' H' a d := by
  cases h with
  | lst h t => exact .lst (ha _ h) (t.imp hn)
  | dK h t => exact .dK (ha _ h) (t.imp hn)
  | dN h y e1 e2 e3 e4 e5 t => exact .dN (ha _ h) y e1 e2 e3 e4 e5 (t.imp hn)
/-- an object of one's own, told as data -/
theorem Ob.den {a : Addr} {d : PyData} (n : ¬ N a) (h : Ob P w K N H a d) : Den P w K N H (.ref a) d := by
  cases h with
  | lst h t => exact .lst h n t
  | dK h t => exact .dK (.inl h) n t
  | dN h y e1 e2 e3 e4 e5 t => exact .dN h n y e1 e2 e3 e4 e5 t
theorem Ob.some {a : Addr} {d : PyData} (h : Ob P w K N H a d) : ∃ u, H a = Option.some u := by
  cases h with
  | lst h t => exact ⟨_, h⟩
  | dK h t => exact ⟨_, h⟩
  | dN h y e1 e2 e3 e4 e5 t => exact ⟨_, h⟩
theorem Dens.length : ∀ {vs : List V} {ds : List PyData}, Dens P w K N H vs ds → vs.length = ds.length
  | _, _, .nil => rfl
  | _, _, .cons _ t => by rw [List.length_cons, List.length_cons, Dens.length t]
theorem Dens.append : ∀ {vs us : List V} {ds es : List PyData}, Dens P w K N H vs ds → Dens P w K N H us es → Dens P w K N H (vs ++ us) (ds ++ es)
  | _, _, _, _, .nil, t => t
  | _, _, _, _, .cons h r, t => .cons h (Dens.append r t)
theorem Dens.get : ∀ {vs : List V} {ds : List PyData} {i : Nat} {v : V}, Dens P w K N H vs ds → vs[i]? = some v → ∃ d, ds[i]? = some d ∧ Den P w K N H v d
  | _, _, _, _, .nil, e => by simp at e
  | _, _, 0, _, .cons h _, e => by simp at e; subst e; exact ⟨_, rfl, h⟩
  | _, _, i + 1, v, .cons _ t, e => by
    obtain ⟨d, h1, h2⟩ := Dens.get (i := i) (v := v) t (by simpa using e)
    exact ⟨d, by simpa using h1, h2⟩
theorem Dens.get' : ∀ {vs : List V} {ds : List PyData} {i : Nat} {d : PyData}, Dens P w K N H vs ds → ds[i]? = some d → ∃ v, vs[i]? = some v ∧ Den P w K N H v d
  | _, _, _, _, .nil, e => by simp at e
  | _, _, 0, _, .cons h _, e => by simp at e; subst e; exact ⟨_, rfl, h⟩
  | _, _, i + 1, d, .cons _ t, e => by
    obtain ⟨v, h1, h2⟩ := Dens.get' (i := i) (d := d) t (by simpa using e)
    exact ⟨v, by simpa using h1, h2⟩
theorem Dens.set {v : V} {d : PyData} (h : Den P w K N H v d) : ∀ {vs : List V} {ds : List PyData} (i : Nat), Dens P w K N H vs ds → Dens P w K N H (vs.set i v) (ds.set i d)
  | _, _, _, .nil => .nil
  | _, _, 0, .cons _ t => .cons h t
  | _, _, i + 1, .cons q t => .cons q (Dens.set h i t)
theorem Dens.take : ∀ {vs : List V} {ds : List PyData} (n : Nat), Dens P w K N H vs ds → Dens P w K N H (vs.take n) (ds.take n)
  | _, _, 0, _ => .nil
  | _, _, _ + 1, .nil => .nil
  | _, _, n + 1, .cons q t => .cons q (Dens.take n t)
theorem Dens.drop : ∀ {vs : List V} {ds : List PyData} (n : Nat), Dens P w K N H vs ds → Dens P w K N H (vs.drop n) (ds.drop n)
  | _, _, 0, h => h
  | _, _, _ + 1, .nil => .nil
  | _, _, n + 1, .cons _ t => Dens.drop n t
theorem Dens.snoc {vs : List V} {ds : List PyData} {v : V} {d : PyData} (t : Dens P w K N H vs ds) (h : Den P w K N H v d) : Dens P w K N H (vs ++ [v]) (ds ++ [d]) := t.append (.cons h .nil)
end
end Ev

namespace Ev
open PySem L2

/-- the law's source of numbers, told as data -/
structure Src where
  cells : List Int
  left : Int
  mixed : Int
  turn : Int
/-- a slot: nothing known | data that nobody changes | data of one's own, that may be changed | the source -/
inductive Sl where
  | un | cl (d : PyData) | ow (d : PyData) | sr
/-- a value: clean | an object made just now, held by nobody else | the own object of a slot | the source -/
inductive Tag where
  | cl | fr | tp (i : Nat) | sr
abbrev SS := Option Src
abbrev En := List Sl
abbrev ED := En → SS → Option (PyData × Tag × SS)
abbrev EDs := En → SS → Option (List (PyData × Tag) × SS)
abbrev BD := En → SS → Option (Bool × SS)

structure Wd where
  H0 : Hp
  own : Nat → Option Addr
  bad : Addr → Prop
  src : Option (Addr × Addr)
def Wd.S (W : Wd) (a : Addr) : Prop := ∃ p, W.src = some p ∧ (a = p.1 ∨ a = p.2)
def Wd.N (W : Wd) (a : Addr) : Prop := W.bad a ∨ (∃ i, W.own i = some a) ∨ W.S a
def srcKv (s : Src) (c : Addr) : List (L2.Key × V) :=
  [(.inr "cells", .ref c), (.inr "left", .int s.left), (.inr "mixed", .int s.mixed), (.inr "turn", .int s.turn)]
def SrcOk (W : Wd) (H : Hp) : SS → Prop
  | none => W.src = none
  | some s => ∃ a c, W.src = some (a, c) ∧ a ≠ c ∧ H a = some (.dK (srcKv s c)) ∧ H c = some (.lst (s.cells.map .int))

section
variable (P : Program) (w : World) (K : PySem.W.Frag)
def SlOk (W : Wd) (H : Hp) (σ : L2.St) (i : Nat) : Sl → Prop
  | .un => True
  | .cl d => ∃ v, σ[i]? = some (some v) ∧ Den P w K W.N H v d
  | .ow d => ∃ a, W.own i = some a ∧ σ[i]? = some (some (.ref a)) ∧ Ob P w K W.N H a d
  | .sr => ∃ a c, W.src = some (a, c) ∧ σ[i]? = some (some (.ref a))
structure StOk (W : Wd) (σ : L2.St) (H : Hp) (env : En) (S : SS) : Prop where
  len : env.length = σ.length
  base : ∀ a u, W.H0 a = some u → ¬ W.S a → H a = some u
  own0 : ∀ i a, W.own i = some a → W.H0 a = none ∧ ¬ W.S a
  inj : ∀ i j a, W.own i = some a → W.own j = some a → i = j
  osl : ∀ i a, W.own i = some a → ∃ d, env[i]? = some (.ow d)
  bad0 : ∀ a, W.bad a → ∃ u, W.H0 a = some u ∧ ∀ vs, u ≠ .tup vs
  slots : ∀ i sl, env[i]? = some sl → SlOk P w K W H σ i sl
  src : SrcOk W H S
def VOk (W : Wd) (H H' : Hp) (v : V) (d : PyData) : Tag → Prop
  | .cl => Den P w K W.N H' v d
  | .fr => ∃ a, v = .ref a ∧ H a = none ∧ Ob P w K (fun b => W.N b ∨ b = a) H' a d
  | .tp i => ∃ a, W.own i = some a ∧ v = .ref a ∧ Ob P w K W.N H' a d
  | .sr => ∃ a c, W.src = some (a, c) ∧ v = .ref a
inductive VsOk (W : Wd) (H H' : Hp) : List V → List (PyData × Tag) → Prop
  | nil : VsOk W H H' [] []
  | cons {v : V} {vs : List V} {d : PyData} {t : Tag} {ds : List (PyData × Tag)} : VOk P w K W H H' v d t → VsOk W H H' vs ds → VsOk W H H' (v :: vs) ((d, t) :: ds)
def tEv (m : ED) : TE := fun σ H Q => ∃ (W : Wd) (env : En) (S : SS), StOk P w K W σ H env S ∧ ∃ d t S', m env S = some (d, t, S') ∧
  ∀ v H', Kp W.S H H' → SrcOk W H' S' → VOk P w K W H H' v d t → Q v H'
def tEvs (m : EDs) : TA := fun σ H Q => ∃ (W : Wd) (env : En) (S : SS), StOk P w K W σ H env S ∧ ∃ ds S', m env S = some (ds, S') ∧
  ∀ vs H', Kp W.S H H' → SrcOk W H' S' → VsOk P w K W H H' vs ds → Q vs H'
def tEvB (m : BD) : TT := fun σ H Q => ∃ (W : Wd) (env : En) (S : SS), StOk P w K W σ H env S ∧ ∃ b S', m env S = some (b, S') ∧
  ∀ H', Kp W.S H H' → SrcOk W H' S' → Q b H'
end
abbrev EE (X : Cx) (e : Expr) (m : ED) : Prop := PE X e (tEv X.prog X.w X.K m)
abbrev EA (X : Cx) (es : List Expr) (m : EDs) : Prop := PA X es (tEvs X.prog X.w X.K m)
abbrev EB (X : Cx) (e : Expr) (m : BD) : Prop := PT X e (tEvB X.prog X.w X.K m)

section
variable {P : Program} {w : World} {K : PySem.W.Frag} {W : Wd} {σ : L2.St} {H H' H2 : Hp} {env : En} {S S' : SS} {v : V} {d : PyData} {t : Tag}
theorem Ob.some' {N : Addr → Prop} {a : Addr} {d : PyData} (h : Ob P w K N H a d) : ∃ u, H a = Option.some u ∧ ∀ vs, u ≠ .tup vs := by
  cases h with
  | lst h t => exact ⟨_, h, fun _ z => nomatch z⟩
  | dK h t => exact ⟨_, h, fun _ z => nomatch z⟩
  | dN h y e1 e2 e3 e4 e5 t => exact ⟨_, h, fun _ z => nomatch z⟩
theorem SrcOk.at' (h : SrcOk W H S) {a : Addr} (s : W.S a) : ∃ u, H a = some u ∧ ∀ vs, u ≠ .tup vs := by
  obtain ⟨p, e, hp⟩ := s
  cases S with
  | none => rw [show W.src = none from h] at e; cases e
  | some s =>
    obtain ⟨x, c, e1, _, h1, h2⟩ := h
    rw [e1] at e
    cases e
    rcases hp with rfl | rfl
    · exact ⟨_, h1, fun _ z => nomatch z⟩
    · exact ⟨_, h2, fun _ z => nomatch z⟩
theorem SrcOk.at (h : SrcOk W H S) {a : Addr} (s : W.S a) : ∃ u, H a = some u := let ⟨u, e, _⟩ := h.at' s; ⟨u, e⟩
theorem StOk.ofN' (ok : StOk P w K W σ H env S) {a : Addr} (n : W.N a) : ∃ u, H a = some u ∧ ∀ vs, u ≠ .tup vs := by
  rcases n with n | ⟨i, n⟩ | n
  · obtain ⟨u, e, z⟩ := ok.bad0 a n
    by_cases s : W.S a
    · exact ok.src.at' s
    · exact ⟨u, ok.base a u e s, z⟩
  · obtain ⟨d, e⟩ := ok.osl i a n
    obtain ⟨b, e1, _, ob⟩ := ok.slots i _ e
    rw [n] at e1
    cases e1
    exact ob.some'
  · exact ok.src.at' n
theorem StOk.ofN (ok : StOk P w K W σ H env S) {a : Addr} (n : W.N a) : ∃ u, H a = some u := let ⟨u, e, _⟩ := ok.ofN' n; ⟨u, e⟩
theorem StOk.fresh (ok : StOk P w K W σ H env S) {a : Addr} (h : H a = none) : ¬ W.N a := fun n => by
  obtain ⟨u, e⟩ := ok.ofN n
  rw [h] at e
  cases e
theorem SN {a : Addr} (s : W.S a) : W.N a := .inr (.inr s)
theorem kpN (k : Kp W.S H H') : Kp W.N H H' := k.mono fun _ => SN
theorem StOk.grow (ok : StOk P w K W σ H env S) (k : Kp W.S H H') (s : SrcOk W H' S') : StOk P w K W σ H' env S' where
  len := ok.len
  base := fun a u e n => k a u n (ok.base a u e n)
  own0 := ok.own0
  inj := ok.inj
  osl := ok.osl
  bad0 := ok.bad0
  slots := fun i sl e => by
    have h := ok.slots i sl e
    cases sl with
    | un => exact h
    | cl d => obtain ⟨v, e1, h⟩ := h; exact ⟨v, e1, h.keep (kpN k)⟩
    | ow d =>
      obtain ⟨a, e1, e2, h⟩ := h
      exact ⟨a, e1, e2, h.imp (fun b u n q => ⟨n, kpN k b u n q⟩) fun u q => k a u (ok.own0 i a e1).2 q⟩
    | sr => exact h
  src := s
/-- nothing new ahead of what has grown -/
theorem StOk.back (ok : StOk P w K W σ H env S) (k : Kp W.S H H') (s : SrcOk W H' S') {a : Addr} (h : H' a = none) : H a = none := by
  cases q : H a with
  | none => rfl
  | some u =>
    by_cases sa : W.S a
    · obtain ⟨z, e⟩ := s.at sa
      rw [h] at e; cases e
    · have := k a u sa q
      rw [h] at this; cases this
theorem VOk.grow (ok : StOk P w K W σ H env S) (h : VOk P w K W H H' v d t) (k : Kp W.S H' H2) : VOk P w K W H H2 v d t := by
  cases t with
  | cl => exact Den.keep (kpN k) h
  | fr =>
    obtain ⟨a, e, n, ob⟩ := h
    refine ⟨a, e, n, ob.imp (fun b u m q => ⟨m, kpN k b u (fun z => m (.inl z)) q⟩) fun u q => k a u (fun s => ok.fresh n (SN s)) q⟩
  | tp i =>
    obtain ⟨a, e, n, ob⟩ := h
    refine ⟨a, e, n, ob.imp (fun b u m q => ⟨m, kpN k b u m q⟩) fun u q => k a u (ok.own0 i a e).2 q⟩
  | sr => exact h
theorem VOk.back {H1 : Hp} (ok : StOk P w K W σ H env S) (k : Kp W.S H H1) (s : SrcOk W H1 S') (h : VOk P w K W H1 H' v d t) : VOk P w K W H H' v d t := by
  cases t with
  | cl => exact h
  | fr =>
    obtain ⟨a, e, n, ob⟩ := h
    exact ⟨a, e, ok.back k s n, ob⟩
  | tp i => exact h
  | sr => exact h
theorem VsOk.back {H1 : Hp} (ok : StOk P w K W σ H env S) (k : Kp W.S H H1) (s : SrcOk W H1 S') : ∀ {vs : List V} {ds : List (PyData × Tag)}, VsOk P w K W H1 H' vs ds → VsOk P w K W H H' vs ds
  | _, _, .nil => .nil
  | _, _, .cons h t => .cons (h.back ok k s) (VsOk.back ok k s t)
theorem tEv.use {m : ED} {S' : SS} {R : VK} (ok : StOk P w K W σ H env S) (e : m env S = some (d, t, S')) (h : ∀ v H', StOk P w K W σ H' env S' → Kp W.S H H' → SrcOk W H' S' → VOk P w K W H H' v d t → R v H') : tEv P w K m σ H R :=
  ⟨W, env, S, ok, d, t, S', e, fun v H' k s q => h v H' (ok.grow k s) k s q⟩
theorem tEvs.use {m : EDs} {ds : List (PyData × Tag)} {S' : SS} {R : List V → Hp → Prop} (ok : StOk P w K W σ H env S) (e : m env S = some (ds, S')) (h : ∀ vs H', StOk P w K W σ H' env S' → Kp W.S H H' → SrcOk W H' S' → VsOk P w K W H H' vs ds → R vs H') : tEvs P w K m σ H R :=
  ⟨W, env, S, ok, ds, S', e, fun v H' k s q => h v H' (ok.grow k s) k s q⟩
theorem tEvB.use {m : BD} {b : Bool} {S' : SS} {R : Bool → Hp → Prop} (ok : StOk P w K W σ H env S) (e : m env S = some (b, S')) (h : ∀ H', StOk P w K W σ H' env S' → Kp W.S H H' → SrcOk W H' S' → R b H') : tEvB P w K m σ H R :=
  ⟨W, env, S, ok, b, S', e, fun H' k s => h H' (ok.grow k s) k s⟩
end

/-! ### weakening -/
section
variable {X : Cx}
theorem pe_wk {e : Expr} {t t' : TE} (h : PE X e t) (hw : ∀ σ H Q, t' σ H Q → t σ H Q) : PE X e t' := ⟨fun pins s σ H Q I q => h.run pins s σ H Q I (hw σ H Q q)⟩
theorem pa_wk {e : List Expr} {t t' : TA} (h : PA X e t) (hw : ∀ σ H Q, t' σ H Q → t σ H Q) : PA X e t' := ⟨fun pos pins s σ H Q I q => h.run pos pins s σ H Q I (hw σ H Q q)⟩
theorem pt_wk {e : Expr} {t t' : TT} (h : PT X e t) (hw : ∀ σ H Q, t' σ H Q → t σ H Q) : PT X e t' := ⟨fun pins s σ H Q I q => h.run pins s σ H Q I (hw σ H Q q)⟩
theorem pw_wk {e : Expr} {t t' : TT} (h : PW X e t) (hw : ∀ σ H Q, t' σ H Q → t σ H Q) : PW X e t' := ⟨fun wh pins s σ H Q I q => h.run wh pins s σ H Q I (hw σ H Q q)⟩
theorem ps_wk {e : Stmt} {t t' : TS} (h : PS X e t) (hw : ∀ D σ H, t' D σ H → t D σ H) : PS X e t' := ⟨fun pins s σ H D I q => h.run pins s σ H D I (hw D σ H q)⟩
theorem pss_wk {e : List Stmt} {t t' : TS} (h : PSs X e t) (hw : ∀ D σ H, t' D σ H → t D σ H) : PSs X e t' := ⟨fun pins s σ H D I q => h.run pins s σ H D I (hw D σ H q)⟩
theorem pg_wk {e : Expr} {t t' : TG} (h : PG X e t) (hw : ∀ v σ H Q, t' v σ H Q → t v σ H Q) : PG X e t' := ⟨fun pins s σ H v u Q I r q => h.run pins s σ H v u Q I r (hw v σ H Q q)⟩
end

/-! ### constants and names -/
def eC (d : PyData) : ED := fun _ S => some (d, .cl, S)
def eVar (i : Nat) : ED := fun env S => match env[i]? with
  | some (.cl d) => some (d, .cl, S)
  | some (.ow d) => some (d, .tp i, S)
  | some .sr => some (.none, .sr, S)
  | _ => none
section
variable {X : Cx} {pos : Pos}
theorem ee_int {i : Int} {j : Nat} : EE X (.Constant (.int i) j pos) (eC (.int i)) := pe_wk pe_int fun σ H Q ⟨W, env, S, ok, d, t, S', e, h⟩ => by
  cases e; exact h _ _ Kp.refl ok.src (.int i)
theorem ee_bl {b : Bool} {j : Nat} : EE X (.Constant (.bool b) j pos) (eC (.bool b)) := pe_wk pe_bl fun σ H Q ⟨W, env, S, ok, d, t, S', e, h⟩ => by
  cases e; exact h _ _ Kp.refl ok.src (.bl b)
theorem ee_str {x : Str} {j : Nat} : EE X (.Constant (.str x) j pos) (eC (.str x)) := pe_wk pe_str fun σ H Q ⟨W, env, S, ok, d, t, S', e, h⟩ => by
  cases e; exact h _ _ Kp.refl ok.src (.str x)
theorem ee_non {j : Nat} : EE X (.Constant .none j pos) (eC .none) := pe_wk pe_non fun σ H Q ⟨W, env, S, ok, d, t, S', e, h⟩ => by
  cases e; exact h _ _ Kp.refl ok.src .non
theorem ee_var (i : Nat) {x : Str} (h : PE X (.Name x pos) (tVar i)) : EE X (.Name x pos) (eVar i) := pe_wk h fun σ H Q ⟨W, env, S, ok, d, t, S', e, h⟩ => by
  unfold eVar at e
  cases q : env[i]? with
  | none => rw [q] at e; cases e
  | some sl =>
    rw [q] at e
    have sk := ok.slots i sl q
    cases sl with
    | un => cases e
    | cl d =>
      cases e
      obtain ⟨v, e1, hd⟩ := sk
      exact ⟨v, e1, h v H Kp.refl ok.src hd⟩
    | ow d =>
      cases e
      obtain ⟨a, e1, e2, hd⟩ := sk
      exact ⟨.ref a, e2, h _ H Kp.refl ok.src ⟨a, e1, rfl, hd⟩⟩
    | sr =>
      cases e
      obtain ⟨a, c, e1, e2⟩ := sk
      exact ⟨.ref a, e2, h _ H Kp.refl ok.src ⟨a, c, e1, rfl⟩⟩
end

/-! ### argument lists -/
def dNil : EDs := fun _ S => some ([], S)
def dCons (m : ED) (ms : EDs) : EDs := fun env S => (m env S).bind fun r => (ms env r.2.2).bind fun q => some ((r.1, r.2.1) :: q.1, q.2)
section
variable {X : Cx} {e : Expr} {es : List Expr} {m : ED} {ms : EDs}
theorem VsOk.grow {P : Program} {w : World} {K : PySem.W.Frag} {W : Wd} {σ : L2.St} {H H' H2 : Hp} {env : En} {S : SS} (ok : StOk P w K W σ H env S) (k : Kp W.S H' H2) : ∀ {vs : List V} {ds : List (PyData × Tag)}, VsOk P w K W H H' vs ds → VsOk P w K W H H2 vs ds
  | _, _, .nil => .nil
  | _, _, .cons h t => .cons (h.grow ok k) (VsOk.grow ok k t)
theorem ea_nil : EA X [] dNil := pa_wk pa_nil fun σ H Q ⟨W, env, S, ok, ds, S', e, h⟩ => by
  cases e; exact h _ _ Kp.refl ok.src .nil
theorem ea_cons (ha : EE X e m) (hr : EA X es ms) (hs : starEach (e :: es) X.env = (false, eval e X.env) :: starEach es X.env := by rfl) : EA X (e :: es) (dCons m ms) :=
  pa_wk (pa_cons ha hr hs) fun σ H Q ⟨W, env, S, ok, ds, S', e, h⟩ => by
    obtain ⟨⟨d1, t1, S1⟩, e1, e⟩ := Option.bind_eq_some_iff.mp e
    obtain ⟨⟨l, S2⟩, e2, e⟩ := Option.bind_eq_some_iff.mp e
    cases e
    refine tEv.use ok e1 fun v H1 ok1 k1 s1 hv => ?_
    refine tEvs.use ok1 e2 fun vs H2 ok2 k2 s2 hvs => ?_
    exact h _ _ (k1.trans k2) s2 (.cons (hv.grow ok k2) (hvs.back ok k1 s1))
end
end Ev

namespace Ev
open PySem L2

/-! ### what a value's data says of it -/
section
variable {P : Program} {w : World} {K : PySem.W.Frag} {W : Wd} {σ : L2.St} {H H' H2 : Hp} {env : En} {S S' : SS} {v : V} {t : Tag}
def Tag.rd : Tag → Bool
  | .sr => false
  | _ => true
theorem VOk.int {i : Int} (h : VOk P w K W H H' v (.int i) t) (r : t.rd = true) : v = .int i := by
  cases t with
  | cl => cases h; rfl
  | fr => obtain ⟨a, _, _, ob⟩ := h; cases ob
  | tp i => obtain ⟨a, _, _, ob⟩ := h; cases ob
  | sr => cases r
theorem VOk.str {x : Str} (h : VOk P w K W H H' v (.str x) t) (r : t.rd = true) : v = .str x := by
  cases t with
  | cl => cases h; rfl
  | fr => obtain ⟨a, _, _, ob⟩ := h; cases ob
  | tp i => obtain ⟨a, _, _, ob⟩ := h; cases ob
  | sr => cases r
theorem VOk.bl {b : Bool} (h : VOk P w K W H H' v (.bool b) t) (r : t.rd = true) : v = .bl b := by
  cases t with
  | cl => cases h; rfl
  | fr => obtain ⟨a, _, _, ob⟩ := h; cases ob
  | tp i => obtain ⟨a, _, _, ob⟩ := h; cases ob
  | sr => cases r
theorem VOk.non (h : VOk P w K W H H' v .none t) (r : t.rd = true) : v = .non := by
  cases t with
  | cl => cases h; rfl
  | fr => obtain ⟨a, _, _, ob⟩ := h; cases ob
  | tp i => obtain ⟨a, _, _, ob⟩ := h; cases ob
  | sr => cases r
theorem VOk.tup {ds : List PyData} (h : VOk P w K W H H' v (.tuple ds) t) (r : t.rd = true) : ∃ a vs, v = .ref a ∧ SqT K H' a vs ∧ Dens P w K W.N H' vs ds ∧ ((H' a = some (.tup vs) ∧ ¬ W.N a) ∨ SqT K (fun _ => none) a vs) := by
  cases t with
  | cl =>
    cases h with
    | tup h t =>
      refine ⟨_, _, rfl, ?_, t, h⟩
      rcases h with ⟨h, _⟩ | h
      · exact .inl (.inl h)
      · rcases h with (h | ⟨o, h⟩) | h
        · cases h
        · cases h
        · exact .inr h
  | fr => obtain ⟨a, _, _, ob⟩ := h; cases ob
  | tp i => obtain ⟨a, _, _, ob⟩ := h; cases ob
  | sr => cases r
theorem VOk.lst {ds : List PyData} (h : VOk P w K W H H' v (.list ds) t) (r : t.rd = true) : ∃ a vs, v = .ref a ∧ H' a = some (.lst vs) ∧ Dens P w K W.N H' vs ds := by
  cases t with
  | cl => cases h with
    | lst h _ t => exact ⟨_, _, rfl, h, t⟩
  | fr =>
    obtain ⟨a, e, _, ob⟩ := h
    cases ob with
    | lst h t => exact ⟨a, _, e, h, t.mono fun _ z => .inl z⟩
  | tp i =>
    obtain ⟨a, _, e, ob⟩ := h
    cases ob with
    | lst h t => exact ⟨a, _, e, h, t⟩
  | sr => cases r
/-- whatever it is, it can be read -/
theorem VOk.read {d : PyData} (h : VOk P w K W H H' v d t) (r : t.rd = true) : Den P w K (fun _ => False) H' v d := by
  cases t with
  | cl => exact Den.mono (fun _ z => z.elim) h
  | fr =>
    obtain ⟨a, e, _, ob⟩ := h
    rw [e]
    exact (ob.imp (N' := fun _ => False) (fun _ _ _ q => ⟨fun z => z, q⟩) fun _ q => q).den fun z => z
  | tp i =>
    obtain ⟨a, _, e, ob⟩ := h
    rw [e]
    exact (ob.imp (N' := fun _ => False) (fun _ _ _ q => ⟨fun z => z, q⟩) fun _ q => q).den fun z => z
  | sr => cases r
/-- clean, or just made: clean -/
def Tag.cln : Tag → Bool
  | .cl => true
  | .fr => true
  | _ => false
theorem VOk.clean {d : PyData} (ok : StOk P w K W σ H env S) (h : VOk P w K W H H' v d t) (r : t.cln = true) : Den P w K W.N H' v d := by
  cases t with
  | cl => exact h
  | fr =>
    obtain ⟨a, e, n, ob⟩ := h
    rw [e]
    exact (ob.imp (fun b u m q => ⟨fun z => m (.inl z), q⟩) fun _ q => q : Ob P w K W.N H' a d).den (ok.fresh n)
  | tp i => cases r
  | sr => cases r
/-- a new object at p -/
theorem kp_new {N : Addr → Prop} {p : Addr} {o : HO} (h : H p = none) : Kp N H (upd H p o) := fun a u _ e => by
  rw [upd_ne (ne_of_none e h)]
  exact e
theorem src_new {p : Addr} {o : HO} (s : SrcOk W H S) (h : H p = none) : SrcOk W (upd H p o) S := by
  cases S with
  | none => exact s
  | some s0 =>
    obtain ⟨a, c, e1, e2, e3, e4⟩ := s
    exact ⟨a, c, e1, e2, by rw [upd_ne (ne_of_none e3 h)]; exact e3, by rw [upd_ne (ne_of_none e4 h)]; exact e4⟩
theorem v_newL (ok : StOk P w K W σ H env S) {p : Addr} {vs : List V} {ds : List PyData} (h : H p = none) (t : Dens P w K W.N H vs ds) : VOk P w K W H (upd H p (.lst vs)) (.ref p) (.list ds) .fr :=
  ⟨p, rfl, h, .lst upd_same (t.imp fun b u n e => ⟨fun z => z.elim n (ne_of_none e h), by rw [upd_ne (ne_of_none e h)]; exact e⟩)⟩
theorem v_newT (ok : StOk P w K W σ H env S) {p : Addr} {vs : List V} {ds : List PyData} (h : H p = none) (t : Dens P w K W.N H vs ds) : VOk P w K W H (upd H p (.tup vs)) (.ref p) (.tuple ds) .cl :=
  Den.tup (.inl ⟨upd_same, ok.fresh h⟩) (t.keep (kp_new h))
end

/-! ### operators -/
abbrev Opr := PyData → Tag → PyData → Tag → Option (PyData × Tag)
section
variable (P : Program) (w : World) (K : PySem.W.Frag)
def rOp (o : Opr) : R2 := fun x y H Q => ∃ (W : Wd) (σ : L2.St) (env : En) (S : SS) (Ha : Hp) (d1 : PyData) (t1 : Tag) (d2 : PyData) (t2 : Tag) (d : PyData) (t : Tag),
  StOk P w K W σ H env S ∧ VOk P w K W Ha H x d1 t1 ∧ VOk P w K W Ha H y d2 t2 ∧ t1.rd = true ∧ t2.rd = true ∧ o d1 t1 d2 t2 = some (d, t) ∧
  ∀ v H', Kp W.S H H' → SrcOk W H' S → VOk P w K W H H' v d t → Q v H'
end
def eBin (o : Opr) (a b : ED) : ED := fun env S => (a env S).bind fun r => (b env r.2.2).bind fun q => if r.2.1.rd && q.2.1.rd then (o r.1 r.2.1 q.1 q.2.1).map fun z => (z.1, z.2, q.2.2) else none
theorem bin_read {P : Program} {w : World} {K : PySem.W.Frag} {o : Opr} {ma mb : ED} {σ : L2.St} {H : Hp} {Q : VK} (h : tEv P w K (eBin o ma mb) σ H Q) : tOp (rOp P w K o) (tEv P w K ma) (tEv P w K mb) σ H Q := by
  obtain ⟨W, env, S, ok, d, t, S', e, h⟩ := h
  unfold eBin at e
  obtain ⟨⟨d1, t1, S1⟩, e1, e⟩ := Option.bind_eq_some_iff.mp e
  obtain ⟨⟨d2, t2, S2⟩, e2, e⟩ := Option.bind_eq_some_iff.mp e
  dsimp only at e e2
  split at e
  case isFalse => cases e
  rename_i hr
  obtain ⟨⟨d3, t3⟩, e3, e⟩ := Option.map_eq_some_iff.mp e
  cases e
  rw [Bool.and_eq_true] at hr
  refine tEv.use ok e1 fun x H1 ok1 k1 s1 hx => ?_
  refine tEv.use ok1 e2 fun y H2 ok2 k2 s2 hy => ?_
  refine ⟨W, σ, env, _, H, d1, t1, d2, t2, d3, t3, ok2, hx.grow ok k2, hy.back ok k1 s1, hr.1, hr.2, e3, fun v H' k3 s3 hv => ?_⟩
  exact h v H' ((k1.trans k2).trans k3) s3 (hv.back ok (k1.trans k2) s2)
section
variable {X : Cx} {a b : Expr} {ma mb : ED} {pos : Pos}
theorem ee_bin {op : Operator} {o : Opr} (ho : OpR X (binaryOp op) (rOp X.prog X.w X.K o)) (ha : EE X a ma) (hb : EE X b mb) : EE X (.BinOp a op b pos) (eBin o ma mb) :=
  pe_wk (pe_op ho ha hb) fun _ _ _ h => bin_read h
theorem ee_cmp {op : CmpOp} {o : Opr} (ho : OpR X (compareOp op) (rOp X.prog X.w X.K o)) (ha : EE X a ma) (hb : EE X b mb) (hm : behindInMarks op b = false) : EE X (.Compare a [op] [b] pos) (eBin o ma mb) :=
  pe_wk (pe_cmpR ho ha hb hm) fun _ _ _ h => bin_read h
/-- operators on two ints -/
def oI (C : Int → Int → Bool) (g : Int → Int → PyData) : Opr := fun d1 _ d2 _ => match d1, d2 with
  | .int i, .int j => if C i j then some (g i j, .cl) else none
  | _, _ => none
theorem op_I {f : Value → Value → Sem Value} {C : Int → Int → Prop} {C' : Int → Int → Bool} {g : Int → Int → V} {g' : Int → Int → PyData} (ho : OpR X f (rI C g)) (hc : ∀ i j, C' i j = true → C i j)
    (hg : ∀ i j (N : Addr → Prop) (H : Hp), Den X.prog X.w X.K N H (g i j) (g' i j)) : OpR X f (rOp X.prog X.w X.K (oI C' g')) := by
  intro pins s σ H x y v u Q I rx ry h
  obtain ⟨W, σ', env, S, Ha, d1, t1, d2, t2, d, t, ok, h1, h2, r1, r2, e, q⟩ := h
  unfold oI at e
  split at e
  case h_2 => cases e
  rename_i i j
  split at e
  case isFalse => cases e
  rename_i hC
  cases e
  rw [h1.int r1] at rx
  rw [h2.int r2] at ry
  exact ho pins s σ H _ _ v u Q I rx ry ⟨i, j, rfl, rfl, hc i j hC, q _ H Kp.refl ok.src (hg i j _ _)⟩
theorem op_I0 {f : Value → Value → Sem Value} {g : Int → Int → V} {g' : Int → Int → PyData} (ho : OpR X f (rI0 g))
    (hg : ∀ i j (N : Addr → Prop) (H : Hp), Den X.prog X.w X.K N H (g i j) (g' i j)) : OpR X f (rOp X.prog X.w X.K (oI (fun _ _ => true) g')) :=
  op_I (C := fun _ _ => True) (fun pins s σ H x y v u Q I rx ry ⟨i, j, e1, e2, _, q⟩ => ho pins s σ H x y v u Q I rx ry ⟨i, j, e1, e2, q⟩) (fun _ _ _ => trivial) hg
def oSub : Opr := oI (fun _ _ => true) fun i j => .int (i - j)
theorem op_oSub : OpR X (binaryOp .Sub) (rOp X.prog X.w X.K oSub) := op_I0 op_sub fun _ _ _ _ => .int _
def oMod : Opr := oI (fun _ j => decide (j ≠ 0)) fun i j => .int (i.fmod j)
theorem op_oMod : OpR X (binaryOp .Mod) (rOp X.prog X.w X.K oMod) := op_I op_modN (fun _ _ h => of_decide_eq_true h) fun _ _ _ _ => .int _
def oDiv : Opr := oI (fun _ j => decide (j ≠ 0) && decide (j.natAbs < 1073741824)) fun i j => .int (i.fdiv j)
theorem op_oDiv : OpR X (binaryOp .FloorDiv) (rOp X.prog X.w X.K oDiv) := op_I op_fdivN (fun _ _ h => by rw [Bool.and_eq_true] at h; exact ⟨of_decide_eq_true h.1, of_decide_eq_true h.2⟩) fun _ _ _ _ => .int _
def oLt : Opr := oI (fun _ _ => true) fun i j => .bool (decide (i < j))
def oLe : Opr := oI (fun _ _ => true) fun i j => .bool (decide (i ≤ j))
def oGt : Opr := oI (fun _ _ => true) fun i j => .bool (decide (j < i))
def oGe : Opr := oI (fun _ _ => true) fun i j => .bool (decide (j ≤ i))
theorem op_oLt : OpR X (compareOp .Lt) (rOp X.prog X.w X.K oLt) := op_I0 op_lt fun _ _ _ _ => .bl _
theorem op_oLe : OpR X (compareOp .LtE) (rOp X.prog X.w X.K oLe) := op_I0 op_le fun _ _ _ _ => .bl _
theorem op_oGt : OpR X (compareOp .Gt) (rOp X.prog X.w X.K oGt) := op_I0 op_gt fun _ _ _ _ => .bl _
theorem op_oGe : OpR X (compareOp .GtE) (rOp X.prog X.w X.K oGe) := op_I0 op_ge fun _ _ _ _ => .bl _
/-- + -/
def oAdd : Opr := fun d1 _ d2 _ => match d1, d2 with
  | .int i, .int j => some (.int (i + j), .cl)
  | .str x, .str y => if x.length + y.length ≤ 16777216 then some (.str (x ++ y), .cl) else none
  | .list xs, .list ys => if xs.length + ys.length ≤ 16777216 then some (.list (xs ++ ys), .fr) else none
  | .tuple xs, .tuple ys => if xs.length + ys.length ≤ 16777216 then some (.tuple (xs ++ ys), .cl) else none
  | _, _ => none
theorem op_oAdd : OpR X (binaryOp .Add) (rOp X.prog X.w X.K oAdd) := by
  intro pins s σ H x y v u Q I rx ry h
  obtain ⟨W, σ', env, S, Ha, d1, t1, d2, t2, d, t, ok, h1, h2, r1, r2, e, q⟩ := h
  unfold oAdd at e
  split at e
  · cases e
    rw [h1.int r1] at rx
    rw [h2.int r2] at ry
    exact op_add pins s σ H _ _ v u Q I rx ry ⟨_, _, rfl, rfl, q _ H Kp.refl ok.src (Den.int _)⟩
  · split at e
    case isFalse => cases e
    rename_i hz
    cases e
    rw [h1.str r1] at rx
    rw [h2.str r2] at ry
    exact op_add_str pins s σ H _ _ v u Q I rx ry ⟨_, _, rfl, rfl, by rw [sizeLine_eq]; exact hz, q _ H Kp.refl ok.src (Den.str _)⟩
  · split at e
    case isFalse => cases e
    rename_i hz
    cases e
    obtain ⟨a, vs, rfl, e1, g1⟩ := h1.lst r1
    obtain ⟨b, us, rfl, e2, g2⟩ := h2.lst r2
    exact op_cat pins s σ H _ _ v u Q I rx ry ⟨a, b, vs, us, rfl, rfl, e1, e2, by rw [sizeLine_eq, g1.length, g2.length]; exact hz, fun p hp =>
      q _ _ (kp_new hp) (src_new ok.src hp) (v_newL ok hp (g1.append g2))⟩
  · split at e
    case isFalse => cases e
    rename_i hz
    cases e
    obtain ⟨a, vs, rfl, e1, g1, w1⟩ := h1.tup r1
    obtain ⟨b, us, rfl, e2, g2, w2⟩ := h2.tup r2
    refine op_catA pins s σ H _ _ v u Q I rx ry ⟨a, b, vs, us, rfl, rfl, e1, e2, by rw [sizeLine_eq, g1.length, g2.length]; exact hz, fun z => ?_, fun _ z => ?_, fun _ _ p hp =>
      q _ _ (kp_new hp) (src_new ok.src hp) (v_newT ok hp (g1.append g2))⟩
    · subst z
      cases g1
      exact q _ H Kp.refl ok.src (Den.tup w2 g2)
    · subst z
      cases g2
      refine q _ H Kp.refl ok.src ?_
      rw [List.append_nil]
      exact Den.tup w1 g1
  · cases e
/-- * -/
def oMul : Opr := fun d1 _ d2 _ => match d1, d2 with
  | .int i, .int j => if i.natAbs.log2 + j.natAbs.log2 < 1000000 then some (.int (i * j), .cl) else none
  | .list xs, .int k => if k < 9223372036854775808 ∧ -9223372036854775808 ≤ k ∧ xs.length * k.toNat ≤ 16777216 then some (.list (List.replicate k.toNat xs).flatten, .fr) else none
  | .tuple xs, .int k => if xs ≠ [] ∧ 2 ≤ k ∧ k ≤ 1000 ∧ xs.length ≤ 1000 then some (.tuple (List.replicate k.toNat xs).flatten, .cl) else none
  | _, _ => none
theorem dens_rep {P : Program} {w : World} {K : PySem.W.Frag} {N : Addr → Prop} {H : Hp} {vs : List V} {ds : List PyData} (h : Dens P w K N H vs ds) : ∀ k : Nat, Dens P w K N H (List.replicate k vs).flatten (List.replicate k ds).flatten
  | 0 => .nil
  | k + 1 => by
    rw [List.replicate_succ, List.replicate_succ, List.flatten_cons, List.flatten_cons]
    exact h.append (dens_rep h k)
theorem op_oMul : OpR X (binaryOp .Mult) (rOp X.prog X.w X.K oMul) := by
  intro pins s σ H x y v u Q I rx ry h
  obtain ⟨W, σ', env, S, Ha, d1, t1, d2, t2, d, t, ok, h1, h2, r1, r2, e, q⟩ := h
  unfold oMul at e
  split at e
  · split at e
    case isFalse => cases e
    rename_i hz
    cases e
    rw [h1.int r1] at rx
    rw [h2.int r2] at ry
    exact op_mulW pins s σ H _ _ v u Q I rx ry ⟨_, _, rfl, rfl, hz, q _ H Kp.refl ok.src (Den.int _)⟩
  · split at e
    case isFalse => cases e
    rename_i hz
    cases e
    obtain ⟨a, vs, rfl, e1, g1⟩ := h1.lst r1
    rw [h2.int r2] at ry
    refine op_rep pins s σ H _ _ v u Q I rx ry ⟨a, _, vs, rfl, rfl, e1, by omega, by omega, by rw [sizeLine_eq, g1.length]; omega, fun p hp => ?_⟩
    exact q _ _ (kp_new hp) (src_new ok.src hp) (v_newL ok hp (dens_rep g1 _))
  · split at e
    case isFalse => cases e
    rename_i hz
    cases e
    obtain ⟨a, vs, rfl, e1, g1, w1⟩ := h1.tup r1
    rw [h2.int r2] at ry
    refine op_repT pins s σ H _ _ v u Q I rx ry ⟨a, _, vs, rfl, rfl, e1, fun z => ?_, hz.2.1, hz.2.2.1, by rw [g1.length]; exact hz.2.2.2, fun p hp => ?_⟩
    · subst z
      cases g1
      exact hz.1 rfl
    · exact q _ _ (kp_new hp) (src_new ok.src hp) (v_newT ok hp (dens_rep g1 _))
  · cases e
end
end Ev

namespace Ev
open PySem L2

/-! ### data without dicts -/
section
variable {P : Program} {w : World} {K : PySem.W.Frag} {N : Addr → Prop} {H : Hp}
theorem sqT_of {a : Addr} {vs : List V} (h : (H a = some (.tup vs) ∧ ¬ N a) ∨ SqT K (fun _ => none) a vs) : SqT K H a vs := by
  rcases h with ⟨h, _⟩ | h
  · exact .inl (.inl h)
  · rcases h with (h | ⟨o, h⟩) | h
    · cases h
    · cases h
    · exact .inr h
mutual
theorem Den.dp : ∀ {v : V} (d : PyData), Den P w K N H v d → d.canLay0 = true → Dp K H v d
  | _, .none, h, _ => by cases h; exact .non
  | _, .bool b, h, _ => by cases h; exact .bl b
  | _, .int i, h, _ => by cases h; exact .int i
  | _, .str x, h, _ => by cases h; exact .str x
  | _, .list ds, h, c => by
    cases h with
    | lst h n t => exact .lst (.inl (.inl h)) (Dens.dp ds t (by simpa [PyData.canLay0] using c))
  | _, .tuple ds, h, c => by
    cases h with
    | tup h t => exact .tup (sqT_of h) (Dens.dp ds t (by simpa [PyData.canLay0] using c))
  | _, .dict _, _, c => by simp [PyData.canLay0] at c
theorem Dens.dp : ∀ {vs : List V} (ds : List PyData), Dens P w K N H vs ds → PyData.canLayAll0 ds = true → DpAll K H vs ds
  | _, [], h, _ => by cases h; exact .nil
  | _, d :: ds, h, c => by
    have c' : d.canLay0 = true ∧ PyData.canLayAll0 ds = true := by simpa [PyData.canLayAll0] using c
    cases h with
    | cons h t => exact .cons (Den.dp d h c'.1) (Dens.dp ds t c'.2)
end
theorem VOk.dp {W : Wd} {H0 : Hp} {v : V} {d : PyData} {t : Tag} (h : VOk P w K W H0 H v d t) (r : t.rd = true) (c : SeqAt.shaped d = true) : Dp K H v d :=
  (h.read r).dp d (SeqAt.canLay_of_shaped c)
end

/-! ### ==, in, is -/
def isDict : PyData → Bool
  | .dict _ => true
  | _ => false
def oEq : Opr := fun d1 _ d2 _ => if SeqAt.shaped d1 && SeqAt.shaped d2 then some (.bool (PyData.eqv d1 d2), .cl) else none
def oNe : Opr := fun d1 _ d2 _ => if SeqAt.shaped d1 && SeqAt.shaped d2 then some (.bool (!PyData.eqv d1 d2), .cl) else none
def oIn : Opr := fun d1 _ d2 _ => match d2 with
  | .list ds => if SeqAt.shaped d1 && SeqAt.shaped (.list ds) then some (.bool (ds.any fun z => PyData.eqv z d1), .cl) else none
  | .tuple ds => if SeqAt.shaped d1 && SeqAt.shaped (.tuple ds) then some (.bool (ds.any fun z => PyData.eqv z d1), .cl) else none
  | _ => none
def oNotIn : Opr := fun d1 _ d2 _ => match d2 with
  | .list ds => if SeqAt.shaped d1 && SeqAt.shaped (.list ds) then some (.bool (!ds.any fun z => PyData.eqv z d1), .cl) else none
  | .tuple ds => if SeqAt.shaped d1 && SeqAt.shaped (.tuple ds) then some (.bool (!ds.any fun z => PyData.eqv z d1), .cl) else none
  | _ => none
def isNone : PyData → Bool
  | .none => true
  | _ => false
def oIs : Opr := fun d1 _ d2 _ => match d2 with
  | .none => some (.bool (isNone d1), .cl)
  | .bool b => (match d1 with | .bool a => some (.bool (a == b), .cl) | _ => none)
  | _ => none
def oIsNot : Opr := fun d1 _ d2 _ => match d2 with
  | .none => some (.bool (!isNone d1), .cl)
  | .bool b => (match d1 with | .bool a => some (.bool (!(a == b)), .cl) | _ => none)
  | _ => none
section
variable {X : Cx}
theorem op_oEq (hu : X.A.units + 64 < cLine) : OpR X (compareOp .Eq) (rOp X.prog X.w X.K oEq) := by
  intro pins s σ H x y v u Q I rx ry h
  obtain ⟨W, σ', env, S, Ha, d1, t1, d2, t2, d, t, ok, h1, h2, r1, r2, e, q⟩ := h
  unfold oEq at e
  split at e
  case isFalse => cases e
  rename_i hz
  cases e
  rw [Bool.and_eq_true] at hz
  exact op_eqD hu pins s σ H _ _ v u Q I rx ry ⟨d1, d2, h1.dp r1 hz.1, h2.dp r2 hz.2, hz.1, hz.2, q _ H Kp.refl ok.src (Den.bl _)⟩
theorem op_oNe (hu : X.A.units + 64 < cLine) : OpR X (compareOp .NotEq) (rOp X.prog X.w X.K oNe) := by
  intro pins s σ H x y v u Q I rx ry h
  obtain ⟨W, σ', env, S, Ha, d1, t1, d2, t2, d, t, ok, h1, h2, r1, r2, e, q⟩ := h
  unfold oNe at e
  split at e
  case isFalse => cases e
  rename_i hz
  cases e
  rw [Bool.and_eq_true] at hz
  exact op_neD hu pins s σ H _ _ v u Q I rx ry ⟨d1, d2, h1.dp r1 hz.1, h2.dp r2 hz.2, hz.1, hz.2, q _ H Kp.refl ok.src (Den.bl _)⟩
theorem op_oIn (hu : X.A.units + 65 < cLine) : OpR X (compareOp .In) (rOp X.prog X.w X.K oIn) := by
  intro pins s σ H x y v u Q I rx ry h
  obtain ⟨W, σ', env, S, Ha, d1, t1, d2, t2, d, t, ok, h1, h2, r1, r2, e, q⟩ := h
  unfold oIn at e
  split at e
  · split at e
    case isFalse => cases e
    rename_i hz
    cases e
    rw [Bool.and_eq_true] at hz
    exact op_inD hu pins s σ H _ _ v u Q I rx ry ⟨d1, _, h1.dp r1 hz.1, h2.dp r2 hz.2, hz.1, hz.2, q _ H Kp.refl ok.src (Den.bl _)⟩
  · split at e
    case isFalse => cases e
    rename_i hz
    cases e
    rw [Bool.and_eq_true] at hz
    obtain ⟨as, q1⟩ := Dp.reads I d1 x v (h1.dp r1 hz.1) rx
    obtain ⟨bs, q2⟩ := Dp.reads I _ y u (h2.dp r2 hz.2) ry
    exact SeqAt.in_tuple_reads q2 q1 (SeqAt.canLay_of_shaped hz.2) (SeqAt.canLay_of_shaped hz.1) (PyProof.Rows.room_in_shaped hz.1 hu) ⟨.bl _, H, I, rfl, q _ H Kp.refl ok.src (Den.bl _)⟩
  · cases e
theorem op_oNotIn (hu : X.A.units + 65 < cLine) : OpR X (compareOp .NotIn) (rOp X.prog X.w X.K oNotIn) := by
  intro pins s σ H x y v u Q I rx ry h
  obtain ⟨W, σ', env, S, Ha, d1, t1, d2, t2, d, t, ok, h1, h2, r1, r2, e, q⟩ := h
  unfold oNotIn at e
  split at e
  · split at e
    case isFalse => cases e
    rename_i hz
    cases e
    rw [Bool.and_eq_true] at hz
    exact op_notInD hu pins s σ H _ _ v u Q I rx ry ⟨d1, _, h1.dp r1 hz.1, h2.dp r2 hz.2, hz.1, hz.2, q _ H Kp.refl ok.src (Den.bl _)⟩
  · split at e
    case isFalse => cases e
    rename_i hz
    cases e
    rw [Bool.and_eq_true] at hz
    obtain ⟨as, q1⟩ := Dp.reads I d1 x v (h1.dp r1 hz.1) rx
    obtain ⟨bs, q2⟩ := Dp.reads I _ y u (h2.dp r2 hz.2) ry
    exact SeqAt.notIn_tuple_reads q2 q1 (SeqAt.canLay_of_shaped hz.2) (SeqAt.canLay_of_shaped hz.1) (PyProof.Rows.room_in_shaped hz.1 hu) ⟨.bl _, H, I, rfl, q _ H Kp.refl ok.src (Den.bl _)⟩
  · cases e
theorem none_iff {P : Program} {w : World} {K : PySem.W.Frag} {N : Addr → Prop} {H : Hp} {v : V} {d : PyData} (h : Den P w K N H v d) : decide (v = .non) = isNone d := by
  cases h <;> first | rfl | (unfold isNone; exact decide_eq_false (fun z => by cases z))
theorem dec_beq (a b : Bool) : decide (a = b) = (a == b) := by cases a <;> cases b <;> rfl
theorem op_oIs : OpR X (compareOp .Is) (rOp X.prog X.w X.K oIs) := by
  intro pins s σ H x y v u Q I rx ry h
  obtain ⟨W, σ', env, S, Ha, d1, t1, d2, t2, d, t, ok, h1, h2, r1, r2, e, q⟩ := h
  unfold oIs at e
  split at e
  · cases e
    refine op_isN pins s σ H _ _ v u Q I rx ry ⟨h2.non r2, ?_⟩
    rw [none_iff (h1.read r1)]
    exact q _ H Kp.refl ok.src (Den.bl _)
  · split at e
    · cases e
      refine op_is_bl pins s σ H _ _ v u Q I rx ry ⟨_, _, h1.bl r1, h2.bl r2, ?_⟩
      rw [dec_beq]
      exact q _ H Kp.refl ok.src (Den.bl _)
    · cases e
  · cases e
theorem op_oIsNot : OpR X (compareOp .IsNot) (rOp X.prog X.w X.K oIsNot) := by
  intro pins s σ H x y v u Q I rx ry h
  obtain ⟨W, σ', env, S, Ha, d1, t1, d2, t2, d, t, ok, h1, h2, r1, r2, e, q⟩ := h
  unfold oIsNot at e
  split at e
  · cases e
    refine op_notN pins s σ H _ _ v u Q I rx ry ⟨h2.non r2, ?_⟩
    rw [none_iff (h1.read r1)]
    exact q _ H Kp.refl ok.src (Den.bl _)
  · split at e
    · cases e
      refine op_isnot_bl pins s σ H _ _ v u Q I rx ry ⟨_, _, h1.bl r1, h2.bl r2, ?_⟩
      rw [dec_beq]
      exact q _ H Kp.refl ok.src (Den.bl _)
    · cases e
  · cases e
end

/-! ### unary operators, chains -/
def eNeg (m : ED) : ED := fun env S => (m env S).bind fun r => match r.1 with
  | .int i => if r.2.1.rd then some (.int (-i), .cl, r.2.2) else none
  | _ => none
def eChain (o o' : Opr) (a b c : ED) : ED := fun env S => (a env S).bind fun r => (b env r.2.2).bind fun q => if r.2.1.rd && q.2.1.rd then (o r.1 r.2.1 q.1 q.2.1).bind fun z => (match z with
  | (.bool true, .cl) => (c env q.2.2).bind fun y => if y.2.1.rd then (o' q.1 q.2.1 y.1 y.2.1).map fun z' => (z'.1, z'.2, y.2.2) else none
  | (.bool false, .cl) => some (.bool false, .cl, q.2.2)
  | _ => none) else none
section
variable {X : Cx} {a b c : Expr} {ma mb mc : ED} {pos : Pos}
theorem ee_neg (ha : EE X a ma) : EE X (.UnaryOp .USub a pos) (eNeg ma) := pe_wk (pe_un un_neg ha) fun σ H Q ⟨W, env, S, ok, d, t, S', e, h⟩ => by
  unfold eNeg at e
  obtain ⟨⟨d1, t1, S1⟩, e1, e⟩ := Option.bind_eq_some_iff.mp e
  dsimp only at e
  split at e
  case h_2 => cases e
  split at e
  case isFalse => cases e
  rename_i hr
  cases e
  refine tEv.use ok e1 fun x H1 ok1 k1 s1 hx => ?_
  exact ⟨_, hx.int hr, h _ H1 k1 s1 (Den.int _)⟩
theorem chain_read {P : Program} {w : World} {K : PySem.W.Frag} {o o' : Opr} {σ : L2.St} {H : Hp} {Q : VK} (h : tEv P w K (eChain o o' ma mb mc) σ H Q) :
    tChain (rOp P w K o) (rOp P w K o') (tEv P w K ma) (tEv P w K mb) (tEv P w K mc) σ H Q := by
    obtain ⟨W, env, S, ok, d, t, S', e, h⟩ := h
    unfold eChain at e
    obtain ⟨⟨d1, t1, S1⟩, e1, e⟩ := Option.bind_eq_some_iff.mp e
    obtain ⟨⟨d2, t2, S2⟩, e2, e⟩ := Option.bind_eq_some_iff.mp e
    dsimp only at e e2
    split at e
    case isFalse => cases e
    rename_i hr
    rw [Bool.and_eq_true] at hr
    obtain ⟨⟨d3, t3⟩, e3, e⟩ := Option.bind_eq_some_iff.mp e
    refine tEv.use ok e1 fun x H1 ok1 k1 s1 hx => ?_
    refine tEv.use ok1 e2 fun y H2 ok2 k2 s2 hy => ?_
    refine ⟨W, σ, env, _, H, d1, t1, d2, t2, d3, t3, ok2, hx.grow ok k2, hy.back ok k1 s1, hr.1, hr.2, e3, fun z H3 k3 s3 hz => ?_⟩
    have ok3 := ok2.grow k3 s3
    have hy3 : VOk P w K W H H3 y d2 t2 := (hy.back ok k1 s1).grow ok k3
    split at e
    · rename_i hq
      obtain ⟨⟨d4, t4, S4⟩, e4, e⟩ := Option.bind_eq_some_iff.mp e
      dsimp only at e
      split at e
      case isFalse => cases e
      rename_i hr4
      obtain ⟨⟨d5, t5⟩, e5, e⟩ := Option.map_eq_some_iff.mp e
      cases e
      cases hq
      refine ⟨true, by cases hz; rfl, ?_⟩
      rw [if_pos rfl]
      refine tEv.use ok3 e4 fun y' H4 ok4 k4 s4 hy' => ?_
      refine ⟨W, σ, env, _, H, d2, t2, d4, t4, d5, t5, ok4, hy3.grow ok k4, hy'.back ok ((k1.trans k2).trans k3) s3, hr.2, hr4, e5, fun v H5 k5 s5 hv => ?_⟩
      exact h v H5 ((((k1.trans k2).trans k3).trans k4).trans k5) s5 (hv.back ok (((k1.trans k2).trans k3).trans k4) s4)
    · rename_i hq
      cases e
      cases hq
      refine ⟨false, by cases hz; rfl, ?_⟩
      rw [if_neg Bool.false_ne_true]
      exact h _ H3 ((k1.trans k2).trans k3) s3 (Den.bl _)
    · cases e
theorem ee_chain {op op' : CmpOp} {o o' : Opr} (ho : OpR X (compareOp op) (rOp X.prog X.w X.K o)) (ho' : OpR X (compareOp op') (rOp X.prog X.w X.K o')) (ha : EE X a ma) (hb : EE X b mb) (hc : EE X c mc)
    (hm : lastMarks [op, op'] [b, c] = false := by with_unfolding_all rfl) : EE X (.Compare a [op, op'] [b, c] pos) (eChain o o' ma mb mc) :=
  pe_wk (pe_chain ho ho' ha hb hc hm) fun _ _ _ h => chain_read h
end

/-! ### tests -/
def bT (m : ED) : BD := fun env S => (m env S).bind fun r => match r.1, r.2.1 with
  | .bool b, .cl => some (b, r.2.2)
  | _, _ => none
/-- a value's truth -/
def truth : PyData → Option Bool
  | .none => some false
  | .bool b => some b
  | .int i => some (i != 0)
  | .str x => if x.length ≤ 16777216 then some ((x.length : Int) != 0) else none
  | .list ds => some !ds.isEmpty
  | .tuple ds => some !ds.isEmpty
  | .dict _ => none
def bTru (m : ED) : BD := fun env S => (m env S).bind fun r => if r.2.1.rd then (truth r.1).map fun b => (b, r.2.2) else none
def bNot (m : BD) : BD := fun env S => (m env S).map fun r => (!r.1, r.2)
def bAnd (a b : BD) : BD := fun env S => (a env S).bind fun r => if r.1 then b env r.2 else some (false, r.2)
def bOr (a b : BD) : BD := fun env S => (a env S).bind fun r => if r.1 then some (true, r.2) else b env r.2
/-- a test, as a value -/
def eB (m : BD) : ED := fun env S => (m env S).map fun r => (.bool r.1, .cl, r.2)
def eIf (c : BD) (a b : ED) : ED := fun env S => (c env S).bind fun r => if r.1 then a env r.2 else b env r.2
section
variable {X : Cx} {e a b c : Expr} {m ma mb : ED} {mc na nb : BD} {pos : Pos} {rest : List Expr}
theorem bT_read {P : Program} {w : World} {K : PySem.W.Frag} {σ : L2.St} {H : Hp} {Q : Bool → Hp → Prop} (h : tEvB P w K (bT m) σ H Q) : tEv P w K m σ H fun x H1 => ∃ c, x = .bl c ∧ Q c H1 := by
  obtain ⟨W, env, S, ok, b, S', e, h⟩ := h
  unfold bT at e
  obtain ⟨⟨d1, t1, S1⟩, e1, e⟩ := Option.bind_eq_some_iff.mp e
  dsimp only at e
  split at e
  case h_2 => cases e
  cases e
  refine tEv.use ok e1 fun x H1 ok1 k1 s1 hx => ?_
  exact ⟨_, by cases hx; rfl, h H1 k1 s1⟩
theorem eb_val (h : EE X e m) (he : ∀ whole, isTrue e X.env whole = (do let v ← whole; standAt e.pos; holding [v] (truthy v)) := by intro _; rfl) : EB X e (bT m) := pt_wk (pt_val h he) fun _ _ _ h => bT_read h
theorem eb_cmp {op : CmpOp} {o : Opr} (ho : OpR X (compareOp op) (rOp X.prog X.w X.K o)) (ha : EE X a ma) (hb : EE X b mb) (hm : behindInMarks op b = false) : EB X (.Compare a [op] [b] pos) (bT (eBin o ma mb)) :=
  pt_wk (pt_cmpR ho ha hb hm) fun _ _ _ h => by
    obtain ⟨W, env, S, ok, b, S', e, h⟩ := h
    unfold bT at e
    obtain ⟨⟨d1, t1, S1⟩, e1, e⟩ := Option.bind_eq_some_iff.mp e
    dsimp only at e
    split at e
    case h_2 => cases e
    cases e
    exact bin_read ⟨W, env, S, ok, _, _, _, e1, fun v H' k s hv => ⟨_, by cases hv; rfl, h H' k s⟩⟩
theorem eb_chain {op op' : CmpOp} {o o' : Opr} {mc : ED} (ho : OpR X (compareOp op) (rOp X.prog X.w X.K o)) (ho' : OpR X (compareOp op') (rOp X.prog X.w X.K o')) (ha : EE X a ma) (hb : EE X b mb) (hc : EE X c mc)
    (hm : lastMarks [op, op'] [b, c] = false := by with_unfolding_all rfl) : EB X (.Compare a [op, op'] [b, c] pos) (bT (eChain o o' ma mb mc)) :=
  pt_wk (pt_chain ho ho' ha hb hc hm) fun σ H Q h => by
    obtain ⟨W, env, S, ok, b, S', e, h⟩ := h
    unfold bT at e
    obtain ⟨⟨d1, t1, S1⟩, e1, e⟩ := Option.bind_eq_some_iff.mp e
    dsimp only at e
    split at e
    case h_2 => cases e
    cases e
    exact chain_read ⟨W, env, S, ok, _, _, _, e1, fun v H' k s hv => ⟨_, by cases hv; rfl, h H' k s⟩⟩
theorem tru_of {P : Program} {w : World} {K : PySem.W.Frag} {N : Addr → Prop} {H : Hp} {v : V} {d : PyData} {k : Bool} (h : Den P w K N H v d) (e : truth d = some k) : TruV K v H k := by
  cases h with
  | non => cases e; rfl
  | bl b => cases e; rfl
  | int i => cases e; rfl
  | str x =>
    simp only [truth] at e
    split at e
    case isFalse => cases e
    rename_i hz
    cases e
    exact ⟨by rw [sizeLine_eq]; exact hz, rfl⟩
  | tup h t =>
    cases e
    refine .inr (.inl ⟨_, sqT_of h, ?_⟩)
    cases t <;> rfl
  | lst h n t =>
    cases e
    refine .inl ⟨_, .inl (.inl h), ?_⟩
    cases t <;> rfl
  | dK h n t => cases e
  | dN h n y e1 e2 e3 e4 e5 t => cases e
theorem eb_tru (h : EE X e m) (he : ∀ whole, isTrue e X.env whole = (do let v ← whole; standAt e.pos; holding [v] (truthy v)) := by intro _; rfl) : EB X e (bTru m) := pt_wk (pt_truth h he) fun σ H Q ⟨W, env, S, ok, b, S', e, h⟩ => by
  unfold bTru at e
  obtain ⟨⟨d1, t1, S1⟩, e1, e⟩ := Option.bind_eq_some_iff.mp e
  dsimp only at e
  split at e
  case isFalse => cases e
  rename_i hr
  obtain ⟨k, e2, e⟩ := Option.map_eq_some_iff.mp e
  cases e
  refine tEv.use ok e1 fun x H1 ok1 k1 s1 hx => ?_
  exact ⟨_, tru_of (hx.read hr) e2, h H1 k1 s1⟩
theorem eb_not (h : EB X a na) : EB X (.UnaryOp .Not a pos) (bNot na) := pt_wk (pt_not h) fun σ H Q ⟨W, env, S, ok, b, S', e, h⟩ => by
  obtain ⟨⟨b1, S1⟩, e1, e⟩ := Option.map_eq_some_iff.mp e
  cases e
  exact tEvB.use ok e1 fun H1 ok1 k1 s1 => h H1 k1 s1
abbrev EW (X : Cx) (e : Expr) (m : BD) : Prop := PW X e (tEvB X.prog X.w X.K m)
theorem ew_and1 (h : EB X a na) : EW X (.BoolOp .And [a] pos) na := pw_and1 h
theorem ew_or1 (h : EB X a na) : EW X (.BoolOp .Or [a] pos) na := pw_or1 h
theorem ew_and (h : EB X a na) (hr : EW X (.BoolOp .And (b :: rest) pos) nb) : EW X (.BoolOp .And (a :: b :: rest) pos) (bAnd na nb) := pw_wk (pw_and h hr) fun σ H Q ⟨W, env, S, ok, b, S', e, h⟩ => by
  obtain ⟨⟨b1, S1⟩, e1, e⟩ := Option.bind_eq_some_iff.mp e
  dsimp only at e
  refine tEvB.use ok e1 fun H1 ok1 k1 s1 => ?_
  split at e
  · rename_i hb
    rw [if_pos hb]
    exact tEvB.use ok1 e fun H2 ok2 k2 s2 => h H2 (k1.trans k2) s2
  · rename_i hb
    rw [if_neg hb]
    cases e
    exact h H1 k1 s1
theorem ew_or (h : EB X a na) (hr : EW X (.BoolOp .Or (b :: rest) pos) nb) : EW X (.BoolOp .Or (a :: b :: rest) pos) (bOr na nb) := pw_wk (pw_or h hr) fun σ H Q ⟨W, env, S, ok, b, S', e, h⟩ => by
  obtain ⟨⟨b1, S1⟩, e1, e⟩ := Option.bind_eq_some_iff.mp e
  dsimp only at e
  refine tEvB.use ok e1 fun H1 ok1 k1 s1 => ?_
  split at e
  · rename_i hb
    rw [if_pos hb]
    cases e
    exact h H1 k1 s1
  · rename_i hb
    rw [if_neg hb]
    exact tEvB.use ok1 e fun H2 ok2 k2 s2 => h H2 (k1.trans k2) s2
theorem eb_w (h : EW X e na) : EB X e na := h.pt
/-- bool values of and, or, not: all parts are bools -/
def eAnd (a b : ED) : ED := fun env S => (a env S).bind fun r => match r.1, r.2.1 with
  | .bool true, .cl => b env r.2.2
  | .bool false, .cl => some (.bool false, .cl, r.2.2)
  | _, _ => none
def eOr (a b : ED) : ED := fun env S => (a env S).bind fun r => match r.1, r.2.1 with
  | .bool false, .cl => b env r.2.2
  | .bool true, .cl => some (.bool true, .cl, r.2.2)
  | _, _ => none
def eNot (a : ED) : ED := fun env S => (a env S).bind fun r => match r.1, r.2.1 with
  | .bool b, .cl => some (.bool !b, .cl, r.2.2)
  | _, _ => none
theorem ee_one {op : BoolOp} (h : EE X a ma) : EE X (.BoolOp op [a] pos) ma := pe_one h
theorem ee_and (h : EE X a ma) (hr : EE X (.BoolOp .And (b :: rest) pos) mb) : EE X (.BoolOp .And (a :: b :: rest) pos) (eAnd ma mb) := pe_wk (pe_and h hr) fun σ H Q ⟨W, env, S, ok, d, t, S', e, h⟩ => by
  obtain ⟨⟨d1, t1, S1⟩, e1, e⟩ := Option.bind_eq_some_iff.mp e
  dsimp only at e
  refine tEv.use ok e1 fun x H1 ok1 k1 s1 hx => ?_
  split at e
  · refine ⟨true, by cases hx; rfl, ?_⟩
    rw [if_pos rfl]
    exact tEv.use ok1 e fun v H2 ok2 k2 s2 hv => h v H2 (k1.trans k2) s2 (hv.back ok k1 s1)
  · refine ⟨false, by cases hx; rfl, ?_⟩
    rw [if_neg Bool.false_ne_true]
    cases e
    exact h _ H1 k1 s1 (Den.bl _)
  · cases e
theorem ee_or (h : EE X a ma) (hr : EE X (.BoolOp .Or (b :: rest) pos) mb) : EE X (.BoolOp .Or (a :: b :: rest) pos) (eOr ma mb) := pe_wk (pe_or h hr) fun σ H Q ⟨W, env, S, ok, d, t, S', e, h⟩ => by
  obtain ⟨⟨d1, t1, S1⟩, e1, e⟩ := Option.bind_eq_some_iff.mp e
  dsimp only at e
  refine tEv.use ok e1 fun x H1 ok1 k1 s1 hx => ?_
  split at e
  · refine ⟨false, by cases hx; rfl, ?_⟩
    rw [if_neg Bool.false_ne_true]
    exact tEv.use ok1 e fun v H2 ok2 k2 s2 hv => h v H2 (k1.trans k2) s2 (hv.back ok k1 s1)
  · refine ⟨true, by cases hx; rfl, ?_⟩
    rw [if_pos rfl]
    cases e
    exact h _ H1 k1 s1 (Den.bl _)
  · cases e
theorem ee_not (h : EE X a ma) : EE X (.UnaryOp .Not a pos) (eNot ma) := pe_wk (pe_not h) fun σ H Q ⟨W, env, S, ok, d, t, S', e, h⟩ => by
  obtain ⟨⟨d1, t1, S1⟩, e1, e⟩ := Option.bind_eq_some_iff.mp e
  dsimp only at e
  refine tEv.use ok e1 fun x H1 ok1 k1 s1 hx => ?_
  split at e
  · cases e
    exact ⟨_, by cases hx; rfl, h _ H1 k1 s1 (Den.bl _)⟩
  · cases e
theorem ee_if (hc : EB X c mc) (ha : EE X a ma) (hb : EE X b mb) : EE X (.IfExp c a b pos) (eIf mc ma mb) := pe_wk (pe_ifExp hc ha hb) fun σ H Q ⟨W, env, S, ok, d, t, S', e, h⟩ => by
  obtain ⟨⟨b1, S1⟩, e1, e⟩ := Option.bind_eq_some_iff.mp e
  dsimp only at e
  refine tEvB.use ok e1 fun H1 ok1 k1 s1 => ?_
  split at e
  · rename_i hb
    rw [if_pos hb]
    exact tEv.use ok1 e fun v H2 ok2 k2 s2 hv => h v H2 (k1.trans k2) s2 (hv.back ok k1 s1)
  · rename_i hb
    rw [if_neg hb]
    exact tEv.use ok1 e fun v H2 ok2 k2 s2 hv => h v H2 (k1.trans k2) s2 (hv.back ok k1 s1)
end
end Ev

namespace Ev
open PySem L2

/-! ### written tuples and lists -/
def dStar (m : ED) (ms : EDs) : EDs := fun env S => (m env S).bind fun r => if r.2.1.rd then (match r.1 with
  | .tuple ds => (ms env r.2.2).bind fun q => some (ds.map (fun d => (d, Tag.cl)) ++ q.1, q.2)
  | .list ds => (ms env r.2.2).bind fun q => some (ds.map (fun d => (d, Tag.cl)) ++ q.1, q.2)
  | _ => none) else none
def eTup (ms : EDs) : ED := fun env S => (ms env S).bind fun r => if r.1.all (·.2.cln) && decide (r.1.length ≤ 16777216) then some (.tuple (r.1.map (·.1)), .cl, r.2) else none
def eLst (ms : EDs) : ED := fun env S => (ms env S).bind fun r => if r.1.all (·.2.cln) && decide (r.1.length ≤ 16777216) then some (.list (r.1.map (·.1)), .fr, r.2) else none
section
variable {P : Program} {w : World} {K : PySem.W.Frag} {W : Wd} {σ : L2.St} {H H' H2 : Hp} {env : En} {S S' : SS}
theorem VsOk.clean (ok : StOk P w K W σ H env S) : ∀ {vs : List V} {ds : List (PyData × Tag)}, VsOk P w K W H H' vs ds → ds.all (·.2.cln) = true → Dens P w K W.N H' vs (ds.map (·.1))
  | _, _, .nil, _ => .nil
  | _, _, .cons h t, e => by
    rw [List.all_cons, Bool.and_eq_true] at e
    exact .cons (h.clean ok e.1) (VsOk.clean ok t e.2)
theorem VsOk.length : ∀ {vs : List V} {ds : List (PyData × Tag)}, VsOk P w K W H H' vs ds → vs.length = ds.length
  | _, _, .nil => rfl
  | _, _, .cons h t => by rw [List.length_cons, List.length_cons, VsOk.length t]
theorem VsOk.ofDens : ∀ {vs : List V} {ds : List PyData}, Dens P w K W.N H' vs ds → VsOk P w K W H H' vs (ds.map fun d => (d, Tag.cl))
  | _, _, .nil => .nil
  | _, _, .cons h t => .cons h (VsOk.ofDens t)
theorem VsOk.append : ∀ {vs us : List V} {ds es : List (PyData × Tag)}, VsOk P w K W H H' vs ds → VsOk P w K W H H' us es → VsOk P w K W H H' (vs ++ us) (ds ++ es)
  | _, _, _, _, .nil, t => t
  | _, _, _, _, .cons h r, t => .cons h (VsOk.append r t)
end
section
variable {X : Cx} {e : Expr} {es : List Expr} {m : ED} {ms : EDs} {pos p : Pos}
theorem ea_star (ha : EE X e m) (hr : EA X es ms) (hs : starEach (.Starred e p :: es) X.env = (true, eval e X.env) :: starEach es X.env := by rfl) : EA X (.Starred e p :: es) (dStar m ms) :=
  pa_wk (StX.pa_star ha hr hs) fun σ H Q ⟨W, env, S, ok, ds, S', e, h⟩ => by
    obtain ⟨⟨d1, t1, S1⟩, e1, e⟩ := Option.bind_eq_some_iff.mp e
    dsimp only at e
    split at e
    case isFalse => cases e
    rename_i hr
    split at e
    · obtain ⟨⟨l, S2⟩, e2, e⟩ := Option.bind_eq_some_iff.mp e
      cases e
      refine tEv.use ok e1 fun v H1 ok1 k1 s1 hv => ?_
      obtain ⟨a, vs, rfl, h1, g1, _⟩ := hv.tup hr
      refine ⟨a, vs, rfl, .inl h1, ?_⟩
      refine tEvs.use ok1 e2 fun us H2 ok2 k2 s2 hus => ?_
      exact h _ _ (k1.trans k2) s2 ((VsOk.ofDens (g1.keep (kpN k2))).append (hus.back ok k1 s1))
    · obtain ⟨⟨l, S2⟩, e2, e⟩ := Option.bind_eq_some_iff.mp e
      cases e
      refine tEv.use ok e1 fun v H1 ok1 k1 s1 hv => ?_
      obtain ⟨a, vs, rfl, h1, g1⟩ := hv.lst hr
      refine ⟨a, vs, rfl, .inr (.inl (.inl h1)), ?_⟩
      refine tEvs.use ok1 e2 fun us H2 ok2 k2 s2 hus => ?_
      exact h _ _ (k1.trans k2) s2 ((VsOk.ofDens (g1.keep (kpN k2))).append (hus.back ok k1 s1))
    · cases e
theorem ee_tup {x1 : Nat} (h : EA X es ms) : EE X (.Tuple es x1 pos) (eTup ms) := pe_wk (pe_tup h) fun σ H Q ⟨W, env, S, ok, d, t, S', e, h⟩ => by
  obtain ⟨⟨ds, S1⟩, e1, e⟩ := Option.bind_eq_some_iff.mp e
  dsimp only at e
  split at e
  case isFalse => cases e
  rename_i hz
  rw [Bool.and_eq_true] at hz
  cases e
  refine tEvs.use ok e1 fun vs H1 ok1 k1 s1 hv => ⟨by rw [sizeLine_eq, hv.length]; exact of_decide_eq_true hz.2, fun p hp => ?_⟩
  exact h _ _ (k1.trans (kp_new hp)) (src_new s1 hp) ((v_newT ok1 hp (hv.clean ok hz.1)).back ok k1 s1)
theorem ee_lst (h : EA X es ms) : EE X (.List es pos) (eLst ms) := pe_wk (pe_lst h) fun σ H Q ⟨W, env, S, ok, d, t, S', e, h⟩ => by
  obtain ⟨⟨ds, S1⟩, e1, e⟩ := Option.bind_eq_some_iff.mp e
  dsimp only at e
  split at e
  case isFalse => cases e
  rename_i hz
  rw [Bool.and_eq_true] at hz
  cases e
  refine tEvs.use ok e1 fun vs H1 ok1 k1 s1 hv => ⟨by rw [sizeLine_eq, hv.length]; exact of_decide_eq_true hz.2, fun p hp => ?_⟩
  exact h _ _ (k1.trans (kp_new hp)) (src_new s1 hp) ((v_newL ok1 hp (hv.clean ok hz.1)).back ok k1 s1)
end

/-! ### subscripts -/
def oIx : Opr := fun d1 _ d2 _ => match d1, d2 with
  | .list ds, .int i => (atI ds i).map fun d => (d, .cl)
  | .tuple ds, .int i => (atI ds i).map fun d => (d, .cl)
  | _, _ => none
theorem atI_dens {P : Program} {w : World} {K : PySem.W.Frag} {N : Addr → Prop} {H : Hp} {vs : List V} {ds : List PyData} {i : Int} {d : PyData} (h : Dens P w K N H vs ds) (e : atI ds i = some d) : ∃ v, atI vs i = some v ∧ Den P w K N H v d := by
  unfold atI at e ⊢
  rw [h.length]
  obtain ⟨j, e1, e2⟩ := Option.bind_eq_some_iff.mp e
  rw [e1]
  exact h.get' e2
section
variable {X : Cx} {a b : Expr} {ma mb : ED} {pos : Pos}
theorem ix_oIx : IxR X (rOp X.prog X.w X.K oIx) := by
  intro value slice pins s σ H x y v u Q I rx ry h hs
  obtain ⟨W, σ', env, S, Ha, d1, t1, d2, t2, d, t, ok, h1, h2, r1, r2, e, q⟩ := h
  unfold oIx at e
  split at e
  · obtain ⟨d3, e3, e⟩ := Option.map_eq_some_iff.mp e
    cases e
    obtain ⟨a, vs, rfl, e1, g1⟩ := h1.lst r1
    rw [h2.int r2] at ry
    obtain ⟨z, e4, g4⟩ := atI_dens g1 e3
    exact ix_list value slice pins s σ H _ _ v u Q I rx ry ⟨a, vs, _, z, rfl, rfl, .inl (.inl e1), e4, q _ H Kp.refl ok.src g4⟩ hs
  · obtain ⟨d3, e3, e⟩ := Option.map_eq_some_iff.mp e
    cases e
    obtain ⟨a, vs, rfl, e1, g1, _⟩ := h1.tup r1
    rw [h2.int r2] at ry
    obtain ⟨z, e4, g4⟩ := atI_dens g1 e3
    exact ix_tup value slice pins s σ H _ _ v u Q I rx ry ⟨a, vs, _, z, rfl, rfl, e1, e4, q _ H Kp.refl ok.src g4⟩ hs
  · cases e
theorem ee_ix (ha : EE X a ma) (hb : EE X b mb) (hs : PlainIx b := by exact fun _ _ => rfl) : EE X (.Subscript a b pos) (eBin oIx ma mb) := pe_wk (pe_ix ix_oIx ha hb hs) fun _ _ _ h => bin_read h
end
/-! ### slices -/
abbrev OD := En → SS → Option (Option Int × SS)
def tEvO (P : Program) (w : World) (K : PySem.W.Frag) (m : OD) : TO := fun σ H Q => ∃ (W : Wd) (env : En) (S : SS), StOk P w K W σ H env S ∧ ∃ o S', m env S = some (o, S') ∧
  ∀ H', Kp W.S H H' → SrcOk W H' S' → Q o H'
abbrev EO (X : Cx) (e : Option Expr) (m : OD) : Prop := PO X e (tEvO X.prog X.w X.K m)
def pNone : OD := fun _ S => some (none, S)
def pSome (m : ED) : OD := fun env S => (m env S).bind fun r => match r.1 with
  | .int i => if r.2.1.rd then some (some i, r.2.2) else none
  | _ => none
def cutD (ds : List PyData) (lo hi : Option Int) : List PyData := (ds.drop (HT.sIx ds.length 0 lo)).take (HT.sIx ds.length ds.length hi - HT.sIx ds.length 0 lo)
def eSl (m : ED) (l h : OD) : ED := fun env S => (m env S).bind fun r => (l env r.2.2).bind fun lo => (h env lo.2).bind fun hi => if r.2.1.rd then (match r.1 with
  | .list ds => some (.list (cutD ds lo.1 hi.1), .fr, hi.2)
  | .tuple ds => some (.tuple (cutD ds lo.1 hi.1), .cl, hi.2)
  | _ => none) else none
section
variable {X : Cx} {e : Expr} {lo hi : Option Expr} {m : ED} {l h : OD} {pos p2 : Pos}
theorem po_wk {o : Option Expr} {t t' : TO} (h : PO X o t) (hw : ∀ σ H Q, t' σ H Q → t σ H Q) : PO X o t' := ⟨fun pins s σ H Q I q => h.run pins s σ H Q I (hw σ H Q q)⟩
theorem eo_none : EO X none pNone := po_wk po_none fun σ H Q ⟨W, env, S, ok, o, S', e, h⟩ => by
  cases e; exact h H Kp.refl ok.src
theorem eo_some (h : EE X e m) : EO X (some e) (pSome m) := po_wk (po_some h) fun σ H Q ⟨W, env, S, ok, o, S', e, h⟩ => by
  obtain ⟨⟨d1, t1, S1⟩, e1, e⟩ := Option.bind_eq_some_iff.mp e
  dsimp only at e
  split at e
  case h_2 => cases e
  split at e
  case isFalse => cases e
  rename_i hr
  cases e
  exact tEv.use ok e1 fun x H1 ok1 k1 s1 hx => ⟨_, hx.int hr, h H1 k1 s1⟩
theorem cut_dens {P : Program} {w : World} {K : PySem.W.Frag} {N : Addr → Prop} {H : Hp} {vs : List V} {ds : List PyData} {lo hi : Option Int} (h : Dens P w K N H vs ds) : Dens P w K N H (cutV vs lo hi) (cutD ds lo hi) := by
  unfold cutV cutD
  rw [h.length]
  exact (h.drop _).take _
def rSl (X : Cx) : V → Option Int → Option Int → Hp → VK → Prop := fun x lo hi H Q => rSlL X.K x lo hi H Q ∨ rSlA X.K x lo hi H Q
theorem ee_sl (he : EE X e m) (hl : EO X lo l) (hh : EO X hi h) : EE X (.Subscript e (.Slice lo hi none p2) pos) (eSl m l h) :=
  pe_wk (pe_slice (SlR.or sl_list sl_tupA) he hl hh) fun σ H Q ⟨W, env, S, ok, d, t, S', e, h⟩ => by
    obtain ⟨⟨d1, t1, S1⟩, e1, e⟩ := Option.bind_eq_some_iff.mp e
    obtain ⟨⟨o1, S2⟩, e2, e⟩ := Option.bind_eq_some_iff.mp e
    obtain ⟨⟨o2, S3⟩, e3, e⟩ := Option.bind_eq_some_iff.mp e
    dsimp only at e e2 e3
    split at e
    case isFalse => cases e
    rename_i hr
    refine tEv.use ok e1 fun x H1 ok1 k1 s1 hx => ⟨W, env, _, ok1, _, _, e2, fun H2 k2 s2 => ⟨W, env, _, ok1.grow k2 s2, _, _, e3, fun H3 k3 s3 => ?_⟩⟩
    have ok3 := (ok1.grow k2 s2).grow k3 s3
    have hx3 : VOk X.prog X.w X.K W H H3 x d1 t1 := (hx.grow ok k2).grow ok k3
    have k : Kp W.S H H3 := (k1.trans k2).trans k3
    split at e
    · cases e
      obtain ⟨a, vs, rfl, h1, g1⟩ := hx3.lst hr
      refine .inl ⟨a, vs, rfl, .inl (.inl h1), fun p hp => ?_⟩
      exact h _ _ (k.trans (kp_new hp)) (src_new s3 hp) ((v_newL ok3 hp (cut_dens g1)).back ok k s3)
    · cases e
      obtain ⟨a, vs, rfl, h1, g1, w1⟩ := hx3.tup hr
      refine .inr ⟨a, vs, rfl, h1, fun z => ?_, fun _ p hp => ?_⟩
      · refine h _ _ k s3 (Den.tup w1 ?_)
        unfold cutD
        rw [← g1.length, z.1, z.2, List.drop_zero, Nat.sub_zero, g1.length, List.take_length]
        exact g1
      · exact h _ _ (k.trans (kp_new hp)) (src_new s3 hp) ((v_newT ok3 hp (cut_dens g1)).back ok k s3)
    · cases e
end
end Ev

namespace Ev
open PySem L2

/-! ### built-in functions -/
abbrev OF := List (PyData × Tag) → Option (PyData × Tag)
def rFn (P : Program) (w : World) (K : PySem.W.Frag) (o : OF) : List V → Hp → VK → Prop := fun vs H Q => ∃ (W : Wd) (σ : L2.St) (env : En) (S : SS) (Ha : Hp) (ds : List (PyData × Tag)) (d : PyData) (t : Tag),
  StOk P w K W σ H env S ∧ VsOk P w K W Ha H vs ds ∧ ds.all (·.2.rd) = true ∧ o ds = some (d, t) ∧ ∀ v H', Kp W.S H H' → SrcOk W H' S → VOk P w K W H H' v d t → Q v H'
def eCall (o : OF) (ms : EDs) : ED := fun env S => (ms env S).bind fun r => if r.1.all (·.2.rd) then (o r.1).map fun z => (z.1, z.2, r.2) else none
theorem call_read {P : Program} {w : World} {K : PySem.W.Frag} {o : OF} {ms : EDs} {σ : L2.St} {H : Hp} {Q : VK} (h : tEv P w K (eCall o ms) σ H Q) : tCB (rFn P w K o) (tEvs P w K ms) σ H Q := by
  obtain ⟨W, env, S, ok, d, t, S', e, h⟩ := h
  obtain ⟨⟨ds, S1⟩, e1, e⟩ := Option.bind_eq_some_iff.mp e
  dsimp only at e
  split at e
  case isFalse => cases e
  rename_i hr
  obtain ⟨⟨d3, t3⟩, e3, e⟩ := Option.map_eq_some_iff.mp e
  cases e
  refine tEvs.use ok e1 fun vs H1 ok1 k1 s1 hv => ?_
  exact ⟨W, σ, env, _, H, ds, d3, t3, ok1, hv, hr, e3, fun v H' k s q => h v H' (k1.trans k) s (q.back ok k1 s1)⟩
section
variable {P : Program} {w : World} {K : PySem.W.Frag} {W : Wd} {H0 H : Hp}
theorem vs1 {vs : List V} {d : PyData} {t : Tag} (h : VsOk P w K W H0 H vs [(d, t)]) : ∃ v, vs = [v] ∧ VOk P w K W H0 H v d t := by
  cases h with
  | cons h t => cases t; exact ⟨_, rfl, h⟩
theorem vs2 {vs : List V} {d1 d2 : PyData} {t1 t2 : Tag} (h : VsOk P w K W H0 H vs [(d1, t1), (d2, t2)]) : ∃ v u, vs = [v, u] ∧ VOk P w K W H0 H v d1 t1 ∧ VOk P w K W H0 H u d2 t2 := by
  cases h with
  | cons h t =>
    cases t with
    | cons h2 t => cases t; exact ⟨_, _, rfl, h, h2⟩
/-- ints of data -/
def intsOf : List PyData → Option (List Int)
  | [] => some []
  | .int i :: r => (intsOf r).map (i :: ·)
  | _ :: _ => none
theorem ints_of {N : Addr → Prop} : ∀ {vs : List V} {ds : List PyData} {ns : List Int}, Dens P w K N H vs ds → intsOf ds = some ns → vs = ns.map V.int
  | _, _, _, .nil, e => by cases e; rfl
  | _, d :: ds, ns, .cons h t, e => by
    unfold intsOf at e
    split at e
    · rename_i e0; cases e0
    · rename_i i r e0
      cases e0
      obtain ⟨ms, e1, e2⟩ := Option.map_eq_some_iff.mp e
      subst e2
      cases h
      rw [ints_of t e1]
      rfl
    · cases e
def boolsOf : List PyData → Option (List Bool)
  | [] => some []
  | .bool i :: r => (boolsOf r).map (i :: ·)
  | _ :: _ => none
theorem bools_of {N : Addr → Prop} : ∀ {vs : List V} {ds : List PyData} {ns : List Bool}, Dens P w K N H vs ds → boolsOf ds = some ns → vs = ns.map V.bl
  | _, _, _, .nil, e => by cases e; rfl
  | _, d :: ds, ns, .cons h t, e => by
    unfold boolsOf at e
    split at e
    · rename_i e0; cases e0
    · rename_i i r e0
      cases e0
      obtain ⟨ms, e1, e2⟩ := Option.map_eq_some_iff.mp e
      subst e2
      cases h
      rw [bools_of t e1]
      rfl
    · cases e
end
def fLen : OF
  | [(.list ds, _)] => some (.int ds.length, .cl)
  | [(.tuple ds, _)] => some (.int ds.length, .cl)
  | [(.str x, _)] => if x.length ≤ 16777216 then some (.int x.length, .cl) else none
  | _ => none
def fAbs : OF
  | [(.int i, _)] => some (.int (if i < 0 then -i else i), .cl)
  | _ => none
def fInt : OF
  | [(.int i, _)] => some (.int i, .cl)
  | [(.bool b, _)] => some (.int (if b then 1 else 0), .cl)
  | _ => none
def fSum : OF
  | [(.list ds, _)] => (intsOf ds).map fun ns => (.int ns.sum, .cl)
  | [(.tuple ds, _)] => (intsOf ds).map fun ns => (.int ns.sum, .cl)
  | _ => none
def maxI : List Int → Int
  | [] => 0
  | x :: r => r.foldl (fun a b => if a < b then b else a) x
def minI : List Int → Int
  | [] => 0
  | x :: r => r.foldl (fun a b => if b < a then b else a) x
def fMax : OF
  | [(.int i, _), (.int j, _)] => some (.int (if j > i then j else i), .cl)
  | [(.list (d :: ds), _)] => (intsOf (d :: ds)).map fun ns => (.int (maxI ns), .cl)
  | _ => none
def fMin : OF
  | [(.int i, _), (.int j, _)] => some (.int (if j < i then j else i), .cl)
  | [(.list (d :: ds), _)] => (intsOf (d :: ds)).map fun ns => (.int (minI ns), .cl)
  | _ => none
def fTuple : OF
  | [(.list ds, _)] => some (.tuple ds, .cl)
  | [(.tuple ds, _)] => some (.tuple ds, .cl)
  | _ => none
def fList : OF
  | [(.list ds, _)] => some (.list ds, .fr)
  | [(.tuple ds, _)] => some (.list ds, .fr)
  | _ => none
def fAll : OF
  | [(.list ds, _)] => (boolsOf ds).map fun ns => (.bool (ns.all id), .cl)
  | _ => none
def fAny : OF
  | [(.list ds, _)] => (boolsOf ds).map fun ns => (.bool (ns.any id), .cl)
  | _ => none
theorem foldl_max : ∀ (r : List Int) (x : Int), x ≤ r.foldl (fun a b => if a < b then b else a) x ∧ (∀ y ∈ r, y ≤ r.foldl (fun a b => if a < b then b else a) x) ∧ (r.foldl (fun a b => if a < b then b else a) x ∈ x :: r)
  | [], x => ⟨Int.le_refl _, fun _ h => (nomatch h), List.mem_cons_self⟩
  | b :: r, x => by
    rw [List.foldl_cons]
    obtain ⟨h1, h2, h3⟩ := foldl_max r (if x < b then b else x)
    refine ⟨?_, fun y hy => ?_, ?_⟩
    · refine Int.le_trans ?_ h1
      split <;> omega
    · rcases List.mem_cons.mp hy with rfl | hy
      · refine Int.le_trans ?_ h1
        split <;> omega
      · exact h2 y hy
    · rcases List.mem_cons.mp h3 with h | h
      · rw [h]
        split
        · exact List.mem_cons_of_mem _ List.mem_cons_self
        · exact List.mem_cons_self
      · exact List.mem_cons_of_mem _ (List.mem_cons_of_mem _ h)
theorem foldl_min : ∀ (r : List Int) (x : Int), r.foldl (fun a b => if b < a then b else a) x ≤ x ∧ (∀ y ∈ r, r.foldl (fun a b => if b < a then b else a) x ≤ y) ∧ (r.foldl (fun a b => if b < a then b else a) x ∈ x :: r)
  | [], x => ⟨Int.le_refl _, fun _ h => (nomatch h), List.mem_cons_self⟩
  | b :: r, x => by
    rw [List.foldl_cons]
    obtain ⟨h1, h2, h3⟩ := foldl_min r (if b < x then b else x)
    refine ⟨?_, fun y hy => ?_, ?_⟩
    · refine Int.le_trans h1 ?_
      split <;> omega
    · rcases List.mem_cons.mp hy with rfl | hy
      · refine Int.le_trans h1 ?_
        split <;> omega
      · exact h2 y hy
    · rcases List.mem_cons.mp h3 with h | h
      · rw [h]
        split
        · exact List.mem_cons_of_mem _ List.mem_cons_self
        · exact List.mem_cons_self
      · exact List.mem_cons_of_mem _ (List.mem_cons_of_mem _ h)
theorem maxI_eq {ns : List Int} {m : Int} (h : m ∈ ns) (hb : ∀ y ∈ ns, y ≤ m) : m = maxI ns := by
  cases ns with
  | nil => cases h
  | cons x r =>
    obtain ⟨h1, h2, h3⟩ := foldl_max r x
    have h4 := hb _ h3
    have h5 : m ≤ r.foldl (fun a b => if a < b then b else a) x := by
      rcases List.mem_cons.mp h with rfl | h
      · exact h1
      · exact h2 m h
    exact Int.le_antisymm h5 h4
theorem minI_eq {ns : List Int} {m : Int} (h : m ∈ ns) (hb : ∀ y ∈ ns, m ≤ y) : m = minI ns := by
  cases ns with
  | nil => cases h
  | cons x r =>
    obtain ⟨h1, h2, h3⟩ := foldl_min r x
    have h4 := hb _ h3
    have h5 : r.foldl (fun a b => if b < a then b else a) x ≤ m := by
      rcases List.mem_cons.mp h with rfl | h
      · exact h1
      · exact h2 m h
    exact Int.le_antisymm h4 h5
theorem intsOf_len : ∀ {ds : List PyData} {ns : List Int}, intsOf ds = some ns → ns.length = ds.length
  | [], _, e => by cases e; rfl
  | d :: ds, ns, e => by
    unfold intsOf at e
    split at e
    · rename_i e0; cases e0
    · rename_i i r e0
      cases e0
      obtain ⟨ms, e1, e2⟩ := Option.map_eq_some_iff.mp e
      subst e2
      rw [List.length_cons, List.length_cons, intsOf_len e1]
    · cases e
/-- sum of a tuple of ints, over the library's walk -/
theorem sum_tup_raw {prog : Program} {w : World} {A : Around} {E : Value → Shared → Prop} {s : Shared} {l : Addr} {its : List Value} {ns : List Int} {Q : Value → Shared → Prop}
    (hh : A.handled = none) (hl : s.heap.IsTuple l its.toArray) (hi : PyProof.Rows.IntsAre its ns)
    (h : ∀ h' tk t', (∀ b o, s.heap.get? b = some o → h'.get? b = some o) → Q (.int ns.sum t') { s with heap := h', toks := tk }) : wpAny (model prog w) A (call (.builtin "sum") [.ref l]) Q E s := by
  obtain ⟨xs, e⟩ := hi.allInts.items
  have hn : numsOf (intItems xs).toList = ns := by rw [← e]; exact hi.numsOf
  rw [PySem.nums_intItems] at hn
  rw [e] at hl
  have hlt : l < s.heap.objs.size := Heap.lt_size hl.choose_spec.1
  refine call_sum_walkG (wpAny_pyIter_tuple hl ?_)
  refine ⟨s.heap.objs.size, [s.heap.objs.size, l], [s.heap.objs.size], _, _, _, PySem.numAt xs, rfl, Walks.tuple (A := A.in1) hh _ l (Nat.ne_of_lt hlt) (intItems xs),
    ⟨⟨_, Heap.get?_push_size _ rfl, rfl, rfl⟩, hl.push _⟩, fun b hb => ?_, (fun _ _ => intItems_at), fun h' tk t' hk => ?_⟩
  · show b < (s.heap.push _).objs.size
    rw [Heap.size_push]
    rcases List.mem_cons.mp hb with rfl | hb
    · exact Nat.lt_succ_self _
    · rcases List.mem_cons.mp hb with rfl | hb
      · exact Nat.lt_succ_of_lt hlt
      · cases hb
  · have := h h' tk t' fun b o q => hk b o (fun z => by
      rcases List.mem_cons.mp z with rfl | z
      · exact absurd (Heap.lt_size q) (Nat.lt_irrefl _)
      · cases z) (Heap.get?_push_of_some _ q)
    rw [← hn] at this
    have e2 : (intItems xs).size = xs.size := by simp [intItems]
    rw [e2]
    have e3 : PySem.preSum (PySem.numAt xs) xs.size = (xs.toList.map (·.1)).sum := by
      rw [PySem.preSum_eq, List.take_of_length_le (by simp)]
    rw [e3]; exact this
section
variable {X : Cx}
theorem call_fLen : CallR X (.builtin "len") (rFn X.prog X.w X.K fLen) := by
  intro pins s σ H xs us Q I r h
  obtain ⟨W, σ', env, S, Ha, ds, d, t, ok, hv, hr, e, q⟩ := h
  unfold fLen at e
  split at e
  · cases e
    obtain ⟨v, rfl, h1⟩ := vs1 hv
    simp only [List.all_cons, List.all_nil, Bool.and_true] at hr
    obtain ⟨a, vs, rfl, e1, g1⟩ := h1.lst hr
    exact call_len pins s σ H _ us Q I r ⟨_, vs.length, rfl, .inl ⟨vs, .inl (.inl e1), rfl⟩, by rw [g1.length]; exact q _ H Kp.refl ok.src (Den.int _)⟩
  · cases e
    obtain ⟨v, rfl, h1⟩ := vs1 hv
    simp only [List.all_cons, List.all_nil, Bool.and_true] at hr
    obtain ⟨a, vs, rfl, e1, g1, _⟩ := h1.tup hr
    exact call_len pins s σ H _ us Q I r ⟨_, vs.length, rfl, .inr ⟨vs, e1, rfl⟩, by rw [g1.length]; exact q _ H Kp.refl ok.src (Den.int _)⟩
  · split at e
    case isFalse => cases e
    rename_i hz
    cases e
    obtain ⟨v, rfl, h1⟩ := vs1 hv
    simp only [List.all_cons, List.all_nil, Bool.and_true] at hr
    rw [h1.str hr] at r
    exact call_len pins s σ H _ us Q I r ⟨_, _, rfl, ⟨by rw [sizeLine_eq]; exact hz, rfl⟩, q _ H Kp.refl ok.src (Den.int _)⟩
  · cases e
theorem call_fAbs : CallR X (.builtin "abs") (rFn X.prog X.w X.K fAbs) := by
  intro pins s σ H xs us Q I r h
  obtain ⟨W, σ', env, S, Ha, ds, d, t, ok, hv, hr, e, q⟩ := h
  unfold fAbs at e
  split at e
  · cases e
    obtain ⟨v, rfl, h1⟩ := vs1 hv
    simp only [List.all_cons, List.all_nil, Bool.and_true] at hr
    rw [h1.int hr] at r
    exact call_abs pins s σ H _ us Q I r ⟨_, rfl, q _ H Kp.refl ok.src (Den.int _)⟩
  · cases e
theorem call_fInt : CallR X (.type "int") (rFn X.prog X.w X.K fInt) := by
  intro pins s σ H xs us Q I r h
  obtain ⟨W, σ', env, S, Ha, ds, d, t, ok, hv, hr, e, q⟩ := h
  unfold fInt at e
  split at e
  · cases e
    obtain ⟨v, rfl, h1⟩ := vs1 hv
    simp only [List.all_cons, List.all_nil, Bool.and_true] at hr
    rw [h1.int hr] at r
    exact call_int1 pins s σ H _ us Q I r (.inl ⟨_, rfl, q _ H Kp.refl ok.src (Den.int _)⟩)
  · cases e
    obtain ⟨v, rfl, h1⟩ := vs1 hv
    simp only [List.all_cons, List.all_nil, Bool.and_true] at hr
    rw [h1.bl hr] at r
    exact call_int1 pins s σ H _ us Q I r (.inr ⟨_, rfl, q _ H Kp.refl ok.src (Den.int _)⟩)
  · cases e
theorem call_fSum (hc : X.calm = true) : CallR X (.builtin "sum") (rFn X.prog X.w X.K fSum) := by
  intro pins s σ H xs us Q I r h
  obtain ⟨W, σ', env, S, Ha, ds, d, t, ok, hv, hr, e, q⟩ := h
  unfold fSum at e
  split at e
  · obtain ⟨ns, e1, e⟩ := Option.map_eq_some_iff.mp e
    cases e
    obtain ⟨v, rfl, h1⟩ := vs1 hv
    simp only [List.all_cons, List.all_nil, Bool.and_true] at hr
    obtain ⟨a, vs, rfl, e2, g1⟩ := h1.lst hr
    have e3 := ints_of g1 e1
    subst e3
    exact cr_sum hc pins s σ H _ us Q I r ⟨a, ns, rfl, .inl (.inl e2), q _ H Kp.refl ok.src (Den.int _)⟩
  · obtain ⟨ns, e1, e⟩ := Option.map_eq_some_iff.mp e
    cases e
    obtain ⟨v, rfl, h1⟩ := vs1 hv
    simp only [List.all_cons, List.all_nil, Bool.and_true] at hr
    obtain ⟨a, vs, rfl, e2, g1, _⟩ := h1.tup hr
    have e3 := ints_of g1 e1
    subst e3
    obtain ⟨its, rv, hl, _⟩ := I.tuple e2
    rw [Vals.ref1 r]
    exact sum_tup_raw (I.ok.hd hc) hl rv.ints fun h' tk t' hk => ⟨.int _, H, I.kept hk, ⟨_, rfl⟩, q _ H Kp.refl ok.src (Den.int _)⟩
  · cases e
theorem call_fMax (hc : X.calm = true) : CallR X (.builtin "max") (rFn X.prog X.w X.K fMax) := by
  intro pins s σ H xs us Q I r h
  obtain ⟨W, σ', env, S, Ha, ds, d, t, ok, hv, hr, e, q⟩ := h
  unfold fMax at e
  split at e
  · cases e
    obtain ⟨v, u, rfl, h1, h2⟩ := vs2 hv
    simp only [List.all_cons, List.all_nil, Bool.and_true, Bool.and_eq_true] at hr
    rw [h1.int hr.1, h2.int hr.2] at r
    exact call_max2 hc pins s σ H _ us Q I r ⟨_, _, rfl, q _ H Kp.refl ok.src (Den.int _)⟩
  · obtain ⟨ns, e1, e⟩ := Option.map_eq_some_iff.mp e
    cases e
    obtain ⟨v, rfl, h1⟩ := vs1 hv
    simp only [List.all_cons, List.all_nil, Bool.and_true] at hr
    obtain ⟨a, vs, rfl, e2, g1⟩ := h1.lst hr
    have e3 := ints_of g1 e1
    subst e3
    have hl := intsOf_len e1
    refine cr_max hc pins s σ H _ us Q I r ⟨a, ns, rfl, .inl (.inl e2), by rw [hl, List.length_cons]; omega, fun m h1 h2 => ?_⟩
    rw [maxI_eq h1 h2]
    exact q _ H Kp.refl ok.src (Den.int _)
  · cases e
theorem call_fMin (hc : X.calm = true) : CallR X (.builtin "min") (rFn X.prog X.w X.K fMin) := by
  intro pins s σ H xs us Q I r h
  obtain ⟨W, σ', env, S, Ha, ds, d, t, ok, hv, hr, e, q⟩ := h
  unfold fMin at e
  split at e
  · cases e
    obtain ⟨v, u, rfl, h1, h2⟩ := vs2 hv
    simp only [List.all_cons, List.all_nil, Bool.and_true, Bool.and_eq_true] at hr
    rw [h1.int hr.1, h2.int hr.2] at r
    exact call_min2 hc pins s σ H _ us Q I r ⟨_, _, rfl, q _ H Kp.refl ok.src (Den.int _)⟩
  · obtain ⟨ns, e1, e⟩ := Option.map_eq_some_iff.mp e
    cases e
    obtain ⟨v, rfl, h1⟩ := vs1 hv
    simp only [List.all_cons, List.all_nil, Bool.and_true] at hr
    obtain ⟨a, vs, rfl, e2, g1⟩ := h1.lst hr
    have e3 := ints_of g1 e1
    subst e3
    have hl := intsOf_len e1
    refine cr_min hc pins s σ H _ us Q I r ⟨a, ns, rfl, .inl (.inl e2), by rw [hl, List.length_cons]; omega, fun m h1 h2 => ?_⟩
    rw [minI_eq h1 h2]
    exact q _ H Kp.refl ok.src (Den.int _)
  · cases e
theorem call_fTuple : CallR X (.type "tuple") (rFn X.prog X.w X.K fTuple) := by
  intro pins s σ H xs us Q I r h
  obtain ⟨W, σ', env, S, Ha, ds, d, t, ok, hv, hr, e, q⟩ := h
  unfold fTuple at e
  split at e
  · cases e
    obtain ⟨v, rfl, h1⟩ := vs1 hv
    simp only [List.all_cons, List.all_nil, Bool.and_true] at hr
    obtain ⟨a, vs, rfl, e1, g1⟩ := h1.lst hr
    refine call_tuple_of pins s σ H _ us Q I r ⟨a, vs, rfl, .inl ⟨.inl (.inl e1), fun p hp => ?_⟩⟩
    exact q _ _ (kp_new hp) (src_new ok.src hp) (v_newT ok hp g1)
  · cases e
    obtain ⟨v, rfl, h1⟩ := vs1 hv
    simp only [List.all_cons, List.all_nil, Bool.and_true] at hr
    obtain ⟨a, vs, rfl, e1, g1, w1⟩ := h1.tup hr
    refine call_tuple_of pins s σ H _ us Q I r ⟨a, vs, rfl, .inr ⟨e1, ?_⟩⟩
    exact q _ _ Kp.refl ok.src (Den.tup w1 g1)
  · cases e
theorem call_fList : CallR X (.type "list") (rFn X.prog X.w X.K fList) := by
  intro pins s σ H xs us Q I r h
  obtain ⟨W, σ', env, S, Ha, ds, d, t, ok, hv, hr, e, q⟩ := h
  unfold fList at e
  split at e
  · cases e
    obtain ⟨v, rfl, h1⟩ := vs1 hv
    simp only [List.all_cons, List.all_nil, Bool.and_true] at hr
    obtain ⟨a, vs, rfl, e1, g1⟩ := h1.lst hr
    refine call_list_of pins s σ H _ us Q I r ⟨a, vs, rfl, .inl (.inl (.inl e1)), fun p hp => ?_⟩
    exact q _ _ (kp_new hp) (src_new ok.src hp) (v_newL ok hp g1)
  · cases e
    obtain ⟨v, rfl, h1⟩ := vs1 hv
    simp only [List.all_cons, List.all_nil, Bool.and_true] at hr
    obtain ⟨a, vs, rfl, e1, g1, w1⟩ := h1.tup hr
    refine call_list_of pins s σ H _ us Q I r ⟨a, vs, rfl, .inr e1, fun p hp => ?_⟩
    exact q _ _ (kp_new hp) (src_new ok.src hp) (v_newL ok hp g1)
  · cases e
theorem call_fAll (hc : X.calm = true) : CallR X (.builtin "all") (rFn X.prog X.w X.K fAll) := by
  intro pins s σ H xs us Q I r h
  obtain ⟨W, σ', env, S, Ha, ds, d, t, ok, hv, hr, e, q⟩ := h
  unfold fAll at e
  split at e
  · obtain ⟨ns, e1, e⟩ := Option.map_eq_some_iff.mp e
    cases e
    obtain ⟨v, rfl, h1⟩ := vs1 hv
    simp only [List.all_cons, List.all_nil, Bool.and_true] at hr
    obtain ⟨a, vs, rfl, e2, g1⟩ := h1.lst hr
    have e3 := bools_of g1 e1
    subst e3
    exact cr_all hc pins s σ H _ us Q I r ⟨a, ns, rfl, .inl (.inl e2), q _ H Kp.refl ok.src (Den.bl _)⟩
  · cases e
theorem call_fAny (hc : X.calm = true) : CallR X (.builtin "any") (rFn X.prog X.w X.K fAny) := by
  intro pins s σ H xs us Q I r h
  obtain ⟨W, σ', env, S, Ha, ds, d, t, ok, hv, hr, e, q⟩ := h
  unfold fAny at e
  split at e
  · obtain ⟨ns, e1, e⟩ := Option.map_eq_some_iff.mp e
    cases e
    obtain ⟨v, rfl, h1⟩ := vs1 hv
    simp only [List.all_cons, List.all_nil, Bool.and_true] at hr
    obtain ⟨a, vs, rfl, e2, g1⟩ := h1.lst hr
    have e3 := bools_of g1 e1
    subst e3
    exact cr_any hc pins s σ H _ us Q I r ⟨a, ns, rfl, .inl (.inl e2), q _ H Kp.refl ok.src (Den.bl _)⟩
  · cases e
end
section
variable {X : Cx} {x : Str} {p pos : Pos} {e : Expr} {es : List Expr} {ms : EDs} {id T : String} {o : OF}
theorem ee_callB (hc : CallR X (.builtin id) (rFn X.prog X.w X.K o)) (hg : Gl X x) (hm : X.mg x = none) (hv : bootBuiltins x = some (.builtin id)) (ha : EA X (e :: es) ms) (hn : x ≠ "__name__" := by decide) (hdb : (x == ("__debug__" : Str)) = false := by decide)
    (he : starEach (e :: es) X.env = (false, eval e X.env) :: starEach es X.env := by rfl) (hpl : (backTo pos (starEach es X.env)).any (·.1) = false := by rfl) : EE X (.Call (.Name x p) (e :: es) [] pos) (eCall o ms) :=
  pe_wk (pe_callB hc hg hm hv ha hn hdb he hpl) fun _ _ _ h => call_read h
theorem ee_callTy (hc : CallR X (.type T) (rFn X.prog X.w X.K o)) (hg : Gl X x) (hm : X.mg x = none) (hv : bootBuiltins x = some (.type T)) (ha : EA X (e :: es) ms) (hn : x ≠ "__name__" := by decide) (hdb : (x == ("__debug__" : Str)) = false := by decide)
    (he : starEach (e :: es) X.env = (false, eval e X.env) :: starEach es X.env := by rfl) (hpl : (backTo pos (starEach es X.env)).any (·.1) = false := by rfl) : EE X (.Call (.Name x p) (e :: es) [] pos) (eCall o ms) :=
  pe_wk (pe_callTy hc hg hm hv ha hn hdb he hpl) fun _ _ _ h => call_read h
end
end Ev

namespace Ev
open PySem L2

/-! ### how states change -/
def Wd.dr (W : Wd) (i : Nat) : Wd := { W with own := fun j => if j = i then none else W.own j }
def Wd.ad (W : Wd) (i : Nat) (a : Addr) : Wd := { W with own := fun j => if j = i then some a else W.own j }
/-- what the caller may not change either way -/
def Wd.B (W : Wd) (a : Addr) : Prop := W.bad a ∨ W.S a
/-- the same entry -/
structure Wd.Sim (W W' : Wd) : Prop where
  h0 : W'.H0 = W.H0
  bad : W'.bad = W.bad
  src : W'.src = W.src
theorem Wd.Sim.refl (W : Wd) : W.Sim W := ⟨rfl, rfl, rfl⟩
theorem Wd.Sim.trans {W W' W2 : Wd} (a : W.Sim W') (b : W'.Sim W2) : W.Sim W2 := ⟨b.h0.trans a.h0, b.bad.trans a.bad, b.src.trans a.src⟩
theorem Wd.Sim.S {W W' : Wd} (h : W.Sim W') {a : Addr} : W'.S a ↔ W.S a := by unfold Wd.S; rw [h.src]
theorem sim_dr (W : Wd) (i : Nat) : W.Sim (W.dr i) := ⟨rfl, rfl, rfl⟩
theorem sim_ad (W : Wd) (i : Nat) (a : Addr) : W.Sim (W.ad i a) := ⟨rfl, rfl, rfl⟩
theorem dr_N {W : Wd} {i : Nat} {a : Addr} (h : (W.dr i).N a) : W.N a := by
  rcases h with h | ⟨j, h⟩ | h
  · exact .inl h
  · refine .inr (.inl ⟨j, ?_⟩)
    have h' : (if j = i then none else W.own j) = some a := h
    split at h'
    · cases h'
    · exact h'
  · exact .inr (.inr h)
theorem ad_N {W : Wd} {i : Nat} {p a : Addr} (h : (W.ad i p).N a) : W.N a ∨ a = p := by
  rcases h with h | ⟨j, h⟩ | h
  · exact .inl (.inl h)
  · have h' : (if j = i then some p else W.own j) = some a := h
    split at h'
    · cases h'; exact .inr rfl
    · exact .inl (.inr (.inl ⟨j, h'⟩))
  · exact .inl (.inr (.inr h))

section
variable {P : Program} {w : World} {K : PySem.W.Frag} {W : Wd} {σ : L2.St} {H H' H2 : Hp} {env : En} {S S' : SS} {v : V} {d : PyData} {t : Tag} {i : Nat}
theorem src_sim {W' : Wd} (h : W.Sim W') (s : SrcOk W H S) : SrcOk W' H S := by
  cases S with
  | none => exact h.src.trans s
  | some s0 =>
    obtain ⟨a, c, e, r⟩ := s
    exact ⟨a, c, h.src.trans e, r⟩
theorem get_set_ne {α : Type} {l : List α} {i j : Nat} {x : α} (h : j ≠ i) : (l.set i x)[j]? = l[j]? := List.getElem?_set_ne (Ne.symm h)
/-- slot i forgets what it held -/
theorem StOk.setGen (ok : StOk P w K W σ H env S) {sl : Sl} (hi : i < env.length) (hs : SlOk P w K (W.dr i) H (σ.set i (some v)) i sl) : StOk P w K (W.dr i) (σ.set i (some v)) H (env.set i sl) S where
  len := by rw [List.length_set, List.length_set]; exact ok.len
  base := ok.base
  own0 := fun j a e => by
    have e' : (if j = i then none else W.own j) = some a := e
    split at e'
    · cases e'
    · exact ok.own0 j a e'
  inj := fun j k a e1 e2 => by
    have e1' : (if j = i then none else W.own j) = some a := e1
    have e2' : (if k = i then none else W.own k) = some a := e2
    split at e1'
    · cases e1'
    · split at e2'
      · cases e2'
      · exact ok.inj j k a e1' e2'
  osl := fun j a e => by
    have e' : (if j = i then none else W.own j) = some a := e
    split at e'
    · cases e'
    · rename_i hj
      obtain ⟨d, q⟩ := ok.osl j a e'
      exact ⟨d, by rw [get_set_ne hj]; exact q⟩
  bad0 := ok.bad0
  slots := fun j sl' e => by
    by_cases hj : j = i
    · subst hj
      rw [List.getElem?_set_self hi] at e
      cases e
      exact hs
    · rw [get_set_ne hj] at e
      have h := ok.slots j sl' e
      cases sl' with
      | un => exact trivial
      | cl d =>
        obtain ⟨v, e1, h⟩ := h
        exact ⟨v, by rw [get_set_ne hj]; exact e1, h.mono fun _ => dr_N⟩
      | ow d =>
        obtain ⟨a, e1, e2, h⟩ := h
        refine ⟨a, ?_, by rw [get_set_ne hj]; exact e2, h.imp (fun b u n q => ⟨fun z => n (dr_N z), q⟩) fun _ q => q⟩
        show (if j = i then none else W.own j) = some a
        rw [if_neg hj]; exact e1
      | sr =>
        obtain ⟨a, c, e1, e2⟩ := h
        exact ⟨a, c, e1, by rw [get_set_ne hj]; exact e2⟩
  src := src_sim (sim_dr W i) ok.src
theorem StOk.lt (ok : StOk P w K W σ H env S) (hi : i < env.length) : i < σ.length := by rw [← ok.len]; exact hi
theorem StOk.setCl (ok : StOk P w K W σ H env S) (hi : i < env.length) (h : Den P w K W.N H v d) : StOk P w K (W.dr i) (σ.set i (some v)) H (env.set i (.cl d)) S :=
  ok.setGen hi ⟨v, List.getElem?_set_self (ok.lt hi), h.mono fun _ => dr_N⟩
theorem StOk.setSr (ok : StOk P w K W σ H env S) (hi : i < env.length) {a c : Addr} (e : W.src = some (a, c)) : StOk P w K (W.dr i) (σ.set i (some (.ref a))) H (env.set i .sr) S :=
  ok.setGen hi ⟨a, c, e, List.getElem?_set_self (ok.lt hi)⟩
/-- slot i holds an object that was made just now -/
theorem StOk.setOw (ok : StOk P w K W σ H env S) (k : Kp W.S H H') (s : SrcOk W H' S') (hi : i < env.length) {a : Addr} (hn : H a = none) (ob : Ob P w K (fun b => W.N b ∨ b = a) H' a d) :
    StOk P w K (W.ad i a) (σ.set i (some (.ref a))) H' (env.set i (.ow d)) S' where
  len := by rw [List.length_set, List.length_set]; exact ok.len
  base := (ok.grow k s).base
  own0 := fun j b e => by
    have e' : (if j = i then some a else W.own j) = some b := e
    split at e'
    · cases e'
      refine ⟨?_, fun z => ok.fresh hn (SN z)⟩
      cases q : W.H0 a with
      | none => exact q
      | some u =>
        have := ok.base a u q fun z => ok.fresh hn (SN z)
        rw [hn] at this; cases this
    · exact ok.own0 j b e'
  inj := fun j l b e1 e2 => by
    have e1' : (if j = i then some a else W.own j) = some b := e1
    have e2' : (if l = i then some a else W.own l) = some b := e2
    have na : ∀ m, W.own m ≠ some a := fun m q => ok.fresh hn (.inr (.inl ⟨m, q⟩))
    split at e1' <;> split at e2'
    · rename_i h1 h2; rw [h1, h2]
    · cases e1'; exact absurd e2' (na l)
    · cases e2'; exact absurd e1' (na j)
    · exact ok.inj j l b e1' e2'
  osl := fun j b e => by
    have e' : (if j = i then some a else W.own j) = some b := e
    split at e'
    · rename_i hj
      rw [hj]
      exact ⟨d, List.getElem?_set_self hi⟩
    · rename_i hj
      obtain ⟨d, q⟩ := ok.osl j b e'
      exact ⟨d, by rw [get_set_ne hj]; exact q⟩
  bad0 := ok.bad0
  slots := fun j sl' e => by
    have tr : ∀ b u, ¬ W.N b → H b = some u → ¬ (W.ad i a).N b ∧ H' b = some u := fun b u n q =>
      ⟨fun z => (ad_N z).elim n (ne_of_none q hn), kpN k b u n q⟩
    by_cases hj : j = i
    · subst hj
      rw [List.getElem?_set_self hi] at e
      cases e
      refine ⟨a, if_pos rfl, List.getElem?_set_self (ok.lt hi), ob.imp (fun b u n q => ⟨fun z => n ((ad_N z).elim .inl .inr), q⟩) fun _ q => q⟩
    · rw [get_set_ne hj] at e
      have h := ok.slots j sl' e
      cases sl' with
      | un => exact trivial
      | cl d =>
        obtain ⟨v, e1, h⟩ := h
        exact ⟨v, by rw [get_set_ne hj]; exact e1, h.imp tr⟩
      | ow d =>
        obtain ⟨b, e1, e2, h⟩ := h
        refine ⟨b, ?_, by rw [get_set_ne hj]; exact e2, h.imp tr fun u q => k b u (ok.own0 j b e1).2 q⟩
        show (if j = i then some a else W.own j) = some b
        rw [if_neg hj]; exact e1
      | sr =>
        obtain ⟨b, c, e1, e2⟩ := h
        exact ⟨b, c, e1, by rw [get_set_ne hj]; exact e2⟩
  src := src_sim (sim_ad W i a) s
/-- the own object of slot i is changed -/
theorem StOk.upd (ok : StOk P w K W σ H env S) {a : Addr} {o : HO} (e : W.own i = some a) (hi : i < env.length) (ob : Ob P w K W.N (upd H a o) a d) : StOk P w K W σ (upd H a o) (env.set i (.ow d)) S := by
  have hN : W.N a := .inr (.inl ⟨i, e⟩)
  have hS : ¬ W.S a := (ok.own0 i a e).2
  have tr : ∀ b u, ¬ W.N b → H b = some u → ¬ W.N b ∧ L2.upd H a o b = some u := fun b u n q => ⟨n, (upd_ne fun z : b = a => n (by rw [z]; exact hN)).trans q⟩
  refine ⟨by rw [List.length_set]; exact ok.len, fun b u q n => ?_, ok.own0, ok.inj, fun j b q => ?_, ok.bad0, fun j sl' q => ?_, ?_⟩
  · have : b ≠ a := fun z => by
      rw [z, (ok.own0 i a e).1] at q; cases q
    rw [upd_ne this]
    exact ok.base b u q n
  · by_cases hj : j = i
    · rw [hj]; exact ⟨d, List.getElem?_set_self hi⟩
    · obtain ⟨d, q⟩ := ok.osl j b q
      exact ⟨d, by rw [get_set_ne hj]; exact q⟩
  · by_cases hj : j = i
    · subst hj
      rw [List.getElem?_set_self hi] at q
      cases q
      obtain ⟨d0, q0⟩ := ok.osl j a e
      obtain ⟨b, e1, e2, _⟩ := ok.slots j _ q0
      rw [e] at e1; cases e1
      exact ⟨a, e, e2, ob⟩
    · rw [get_set_ne hj] at q
      have h := ok.slots j sl' q
      cases sl' with
      | un => exact trivial
      | cl d =>
        obtain ⟨v, e1, h⟩ := h
        exact ⟨v, e1, h.imp tr⟩
      | ow d =>
        obtain ⟨b, e1, e2, h⟩ := h
        refine ⟨b, e1, e2, h.imp tr fun u q => ?_⟩
        have : b ≠ a := fun z => hj (ok.inj j i a (z ▸ e1) e)
        rw [upd_ne this]; exact q
      | sr => exact h
  · cases S with
    | none => exact ok.src
    | some s0 =>
      obtain ⟨x, c, e1, e2, e3, e4⟩ := ok.src
      have n1 : x ≠ a := fun z => hS ⟨(x, c), e1, .inl z.symm⟩
      have n2 : c ≠ a := fun z => hS ⟨(x, c), e1, .inr z.symm⟩
      exact ⟨x, c, e1, e2, by rw [upd_ne n1]; exact e3, by rw [upd_ne n2]; exact e4⟩
/-- slot i's own object is given to all: nobody changes it any more -/
def fz (env : En) (i : Nat) : En := match env[i]? with
  | some (.ow d) => env.set i (.cl d)
  | _ => env
theorem StOk.freeze (ok : StOk P w K W σ H env S) (i : Nat) : ∃ W', W.Sim W' ∧ StOk P w K W' σ H (fz env i) S := by
  unfold fz
  split
  · rename_i d q
    obtain ⟨a, e1, e2, ob⟩ := ok.slots i _ q
    have hi : i < env.length := (List.getElem?_eq_some_iff.mp q).1
    refine ⟨W.dr i, sim_dr W i, ?_⟩
    have nn : ¬ (W.dr i).N a := fun z => by
      rcases z with z | ⟨j, z⟩ | z
      · obtain ⟨u, z1, _⟩ := ok.bad0 a z
        rw [(ok.own0 i a e1).1] at z1; cases z1
      · have z' : (if j = i then none else W.own j) = some a := z
        split at z'
        · cases z'
        · rename_i hj; exact hj (ok.inj j i a z' e1)
      · exact (ok.own0 i a e1).2 z
    have h := ok.setGen (v := .ref a) (sl := .cl d) hi ⟨.ref a, List.getElem?_set_self (ok.lt hi), (ob.imp (fun b u n q => ⟨fun z => n (dr_N z), q⟩) fun _ q => q : Ob P w K (W.dr i).N H a d).den nn⟩
    have e3 : σ.set i (some (.ref a)) = σ := by
      refine List.ext_getElem? fun j => ?_
      by_cases hj : j = i
      · rw [hj, List.getElem?_set_self (ok.lt hi), e2]
      · rw [get_set_ne hj]
    rw [e3] at h
    exact h
  · exact ⟨W, Wd.Sim.refl W, ok⟩
end

/-! ### statements -/
inductive Out where
  | nx (env : En) (S : SS)
  | rt (d : PyData) (t : Tag) (S : SS)
  | bk (env : En) (S : SS)
  | ct (env : En) (S : SS)
abbrev SD := En → SS → Option Out
section
variable (P : Program) (w : World) (K : PySem.W.Frag)
/-- what is handed back: of the data that came in, or new -/
def RtOk (W : Wd) (H' : Hp) (v : V) (d : PyData) : Tag → Prop
  | .cl => Den P w K W.B H' v d
  | .fr => ∃ a, v = .ref a ∧ W.H0 a = none ∧ ¬ W.S a ∧ Ob P w K (fun b => W.B b ∨ b = a) H' a d
  | _ => False
def OutK (W : Wd) (D : Ends) : Out → Prop
  | .nx env S => ∀ W' σ' H', W.Sim W' → StOk P w K W' σ' H' env S → D.nx σ' H'
  | .bk env S => ∀ W' σ' H', W.Sim W' → StOk P w K W' σ' H' env S → D.bk σ' H'
  | .ct env S => ∀ W' σ' H', W.Sim W' → StOk P w K W' σ' H' env S → D.ct σ' H'
  | .rt d t S => ∀ v H', (∀ a u, W.H0 a = some u → ¬ W.S a → H' a = some u) → SrcOk W H' S → RtOk P w K W H' v d t → D.rt v H'
def tEvS (m : SD) : TS := fun D σ H => ∃ (W : Wd) (env : En) (S : SS), StOk P w K W σ H env S ∧ ∃ o, m env S = some o ∧ OutK P w K W D o
end
abbrev ES (X : Cx) (st : Stmt) (m : SD) : Prop := PS X st (tEvS X.prog X.w X.K m)
abbrev EL (X : Cx) (st : List Stmt) (m : SD) : Prop := PSs X st (tEvS X.prog X.w X.K m)
section
variable {P : Program} {w : World} {K : PySem.W.Frag} {W W' : Wd} {σ : L2.St} {H H' : Hp} {env : En} {S S' : SS} {v : V} {d : PyData} {t : Tag} {i : Nat} {D D' : Ends}
theorem RtOk.sim (h : W.Sim W') (r : RtOk P w K W' H' v d t) : RtOk P w K W H' v d t := by
  have hB : ∀ a, W.B a ↔ W'.B a := fun a => by unfold Wd.B; rw [h.bad, h.S]
  cases t with
  | cl => exact Den.mono (fun a z => (hB a).mp z) r
  | fr =>
    obtain ⟨a, e, n, s, ob⟩ := r
    refine ⟨a, e, by rw [← h.h0]; exact n, fun z => s (h.S.mpr z), ob.imp (fun b u m q => ⟨fun z => m (z.elim (fun z => .inl ((hB b).mp z)) .inr), q⟩) fun _ q => q⟩
  | tp i => exact r
  | sr => exact r
theorem OutK.sim {o : Out} (h : W.Sim W') (r : OutK P w K W D o) : OutK P w K W' D o := by
  cases o with
  | nx env S => exact fun W2 σ' H' s ok => r W2 σ' H' (h.trans s) ok
  | bk env S => exact fun W2 σ' H' s ok => r W2 σ' H' (h.trans s) ok
  | ct env S => exact fun W2 σ' H' s ok => r W2 σ' H' (h.trans s) ok
  | rt d t S =>
    intro v H' b s q
    refine r v H' (fun a u e n => b a u (by rw [h.h0]; exact e) fun z => n (h.S.mp z)) ?_ (q.sim h)
    exact src_sim ⟨h.h0.symm, h.bad.symm, h.src.symm⟩ s
theorem tEvS.use {m : SD} {o : Out} (ok : StOk P w K W σ H env S) (e : m env S = some o) (h : OutK P w K W D o) : tEvS P w K m D σ H := ⟨W, env, S, ok, o, e, h⟩
end
def sNil : SD := fun env S => some (.nx env S)
def sSeq (m n : SD) : SD := fun env S => (m env S).bind fun o => match o with
  | .nx env' S' => n env' S'
  | o => some o
def sSet (i : Nat) (m : ED) : SD := fun env S => (m env S).bind fun r => if i < env.length then (match r.2.1 with
  | .cl => some (.nx (env.set i (.cl r.1)) r.2.2)
  | .fr => some (.nx (env.set i (.ow r.1)) r.2.2)
  | .sr => some (.nx (env.set i .sr) r.2.2)
  | .tp _ => none) else none
def sFz (i : Nat) (m : SD) : SD := fun env S => m (fz env i) S
def sRet (m : ED) : SD := fun env S => (m env S).bind fun r => match r.2.1 with
  | .cl => some (.rt r.1 .cl r.2.2)
  | .fr => some (.rt r.1 .fr r.2.2)
  | .tp _ => some (.rt r.1 .fr r.2.2)
  | .sr => none
def sRetN : SD := fun _ S => some (.rt .none .cl S)
def sIf (c : BD) (m n : SD) : SD := fun env S => (c env S).bind fun r => if r.1 then m env r.2 else n env r.2
def sExpr (m : ED) : SD := fun env S => (m env S).bind fun r => some (.nx env r.2.2)
def sCont : SD := fun env S => some (.ct env S)
def sBrk : SD := fun env S => some (.bk env S)
section
variable {X : Cx} {st : Stmt} {rest a b : List Stmt} {e c : Expr} {m n : SD} {me : ED} {mc : BD} {i : Nat} {x : Str} {pos pos' : Pos}
theorem el_nil : EL X [] sNil := pss_wk pss_nil fun D σ H ⟨W, env, S, ok, o, e, h⟩ => by
  cases e
  exact h W σ H (Wd.Sim.refl W) ok
theorem seq_read {P : Program} {w : World} {K : PySem.W.Frag} {D : Ends} {σ : L2.St} {H : Hp} (h : tEvS P w K (sSeq m n) D σ H) : tSeq (tEvS P w K m) (tEvS P w K n) D σ H := by
  obtain ⟨W, env, S, ok, o, e, h⟩ := h
  obtain ⟨o1, e1, e⟩ := Option.bind_eq_some_iff.mp e
  refine tEvS.use ok e1 ?_
  cases o1 with
  | nx env' S' => exact fun W' σ' H' s ok' => tEvS.use ok' e (h.sim s)
  | bk env' S' => cases e; exact h
  | ct env' S' => cases e; exact h
  | rt d t S' => cases e; exact h
theorem el_cons (h1 : ES X st m) (h2 : EL X rest n) : EL X (st :: rest) (sSeq m n) := pss_wk (pss_cons h1 h2) fun _ _ _ h => seq_read h
theorem el_one (h1 : ES X st m) : EL X [st] m := pss_one h1
theorem el_fz (j : Nat) (h : EL X rest n) : EL X rest (sFz j n) := pss_wk h fun D σ H ⟨W, env, S, ok, o, e, h⟩ => by
  obtain ⟨W', s, ok'⟩ := ok.freeze j
  exact tEvS.use ok' e (h.sim s)
theorem es_fz (j : Nat) (h : ES X st m) : ES X st (sFz j m) := ps_wk h fun D σ H ⟨W, env, S, ok, o, e, h⟩ => by
  obtain ⟨W', s, ok'⟩ := ok.freeze j
  exact tEvS.use ok' e (h.sim s)
theorem set_read {P : Program} {w : World} {K : PySem.W.Frag} {D : Ends} {σ : L2.St} {H : Hp} (h : tEvS P w K (sSet i me) D σ H) : tAsg (tEv P w K me) (gName i) D σ H := by
  obtain ⟨W, env, S, ok, o, e, h⟩ := h
  obtain ⟨⟨d, t, S1⟩, e1, e⟩ := Option.bind_eq_some_iff.mp e
  dsimp only at e
  split at e
  case isFalse => cases e
  rename_i hi
  refine tEv.use ok e1 fun v H1 ok1 k1 s1 hv => ?_
  split at e
  · cases e
    exact h _ _ H1 (sim_dr W i) (ok1.setCl hi hv)
  · cases e
    obtain ⟨a, rfl, hn, ob⟩ := hv
    exact h _ _ H1 (sim_ad W i a) (ok.setOw k1 s1 hi hn ob)
  · cases e
    obtain ⟨a, c, e2, rfl⟩ := hv
    exact h _ _ H1 (sim_dr W i) (ok1.setSr hi e2)
  · cases e
theorem es_set (he : EE X e me) (hs : swapsWith e (some (.Name x pos')) pos.line X.env = pure false := by rfl) (hN : X.N.Nodup) (hi : X.N[i]? = some x) (hx : Loc X.env.scope x) (hf : X.fn x = true ∨ X.env.scope.names.lookup x = some .local := by first | exact .inl rfl | exact .inr rfl | assumption) :
    ES X (.Assign [.Name x pos'] e pos) (sSet i me) := ps_wk (ps_set hN hi hx he hs hf) fun _ _ _ h => set_read h
theorem es_ret (he : EE X e me) : ES X (.Return (some e) pos) (sRet me) := ps_wk (ps_ret he) fun D σ H ⟨W, env, S, ok, o, e, h⟩ => by
  obtain ⟨⟨d, t, S1⟩, e1, e⟩ := Option.bind_eq_some_iff.mp e
  dsimp only at e
  refine tEv.use ok e1 fun v H1 ok1 k1 s1 hv => ?_
  have hB : ∀ a, W.B a → W.N a := fun a z => z.elim .inl SN
  split at e
  · cases e
    exact h v H1 ok1.base s1 (Den.mono hB hv)
  · cases e
    obtain ⟨a, rfl, hn, ob⟩ := hv
    have nS : ¬ W.S a := fun z => ok.fresh hn (SN z)
    refine h _ H1 ok1.base s1 ⟨a, rfl, ?_, nS, ob.imp (fun b u m q => ⟨fun z => m (z.elim (fun z => .inl (hB b z)) .inr), q⟩) fun _ q => q⟩
    cases q : W.H0 a with
    | none => rfl
    | some u =>
      have := ok.base a u q nS
      rw [hn] at this; cases this
  · cases e
    obtain ⟨a, e2, rfl, ob⟩ := hv
    have hN : W.N a := .inr (.inl ⟨_, e2⟩)
    refine h _ H1 ok1.base s1 ⟨a, rfl, (ok.own0 _ a e2).1, (ok.own0 _ a e2).2, ob.imp (fun b u m q => ⟨fun z => m (z.elim (hB b) fun z => z ▸ hN), q⟩) fun _ q => q⟩
  · cases e
theorem es_retN : ES X (.Return none pos) sRetN := ps_wk ps_retN fun D σ H ⟨W, env, S, ok, o, e, h⟩ => by
  cases e
  exact h .non H ok.base ok.src Den.non
theorem es_if (hc : EB X c mc) (ha : EL X a m) (hb : EL X b n) : ES X (.If c a b pos) (sIf mc m n) := ps_wk (ps_if hc ha hb) fun D σ H ⟨W, env, S, ok, o, e, h⟩ => by
  obtain ⟨⟨k, S1⟩, e1, e⟩ := Option.bind_eq_some_iff.mp e
  dsimp only at e
  refine tEvB.use ok e1 fun H1 ok1 k1 s1 => ?_
  split at e
  · rename_i hk
    rw [if_pos hk]
    exact tEvS.use ok1 e h
  · rename_i hk
    rw [if_neg hk]
    exact tEvS.use ok1 e h
theorem es_expr (he : EE X e me) (hs : swapsWith e none pos.line X.env = pure false := by rfl) : ES X (.Expr e pos) (sExpr me) := ps_wk (ps_expr he hs) fun D σ H ⟨W, env, S, ok, o, e, h⟩ => by
  obtain ⟨⟨d, t, S1⟩, e1, e⟩ := Option.bind_eq_some_iff.mp e
  cases e
  exact tEv.use ok e1 fun v H1 ok1 k1 s1 hv => h W σ H1 (Wd.Sim.refl W) ok1
theorem es_cont : ES X (.Continue pos) sCont := ps_wk ps_continue fun D σ H ⟨W, env, S, ok, o, e, h⟩ => by
  cases e; exact h W σ H (Wd.Sim.refl W) ok
theorem es_brk : ES X (.Break pos) sBrk := ps_wk ps_break fun D σ H ⟨W, env, S, ok, o, e, h⟩ => by
  cases e; exact h W σ H (Wd.Sim.refl W) ok
theorem es_pass : ES X (.Pass pos) sNil := ps_wk ps_pass fun D σ H ⟨W, env, S, ok, o, e, h⟩ => by
  cases e; exact h W σ H (Wd.Sim.refl W) ok
theorem es_doc {j : Nat} {p : Pos} : ES X (.Expr (.Constant (.str x) j p) pos) sNil := ps_wk ps_doc fun D σ H ⟨W, env, S, ok, o, e, h⟩ => by
  cases e; exact h W σ H (Wd.Sim.refl W) ok
end
end Ev

namespace Ev
open PySem L2

/-! ### a list of one's own is changed -/
/-- x.append(e) -/
def sApp (i : Nat) (m : ED) : SD := fun env S => (m env S).bind fun r => match env[i]? with
  | some (.ow (.list ds)) => if r.2.1.cln && decide (ds.length < 16777216) then some (.nx (env.set i (.ow (.list (ds ++ [r.1])))) r.2.2) else none
  | _ => none
/-- x[k] = e -/
def sSetIx (i : Nat) (mk m : ED) : SD := fun env S => (m env S).bind fun r => (mk env r.2.2).bind fun q => match env[i]?, q.1 with
  | some (.ow (.list ds)), .int k => if r.2.1.cln && q.2.1.rd then (ixN ds.length k).map fun j => .nx (env.set i (.ow (.list (ds.set j r.1)))) q.2.2 else none
  | _, _ => none
/-- x[k] op= e, ints -/
def sAugIx (f : Int → Int → Int) (i : Nat) (mk m : ED) : SD := fun env S => (mk env S).bind fun q => (m env q.2.2).bind fun r => match env[i]?, q.1, r.1 with
  | some (.ow (.list ds)), .int k, .int b => if q.2.1.rd && r.2.1.rd then (ixN ds.length k).bind fun j => (match ds[j]? with
    | some (.int a) => some (.nx (env.set i (.ow (.list (ds.set j (.int (f a b)))))) r.2.2)
    | _ => none) else none
  | _, _, _ => none
section
variable {X : Cx} {e k : Expr} {me mk : ED} {i : Nat} {x : Str} {pos apos cpos p : Pos}
theorem own_at {P : Program} {w : World} {K : PySem.W.Frag} {W : Wd} {σ : L2.St} {H : Hp} {env : En} {S : SS} {d : PyData} {i : Nat} (ok : StOk P w K W σ H env S) (e : env[i]? = some (.ow d)) :
    ∃ a, W.own i = some a ∧ σ[i]? = some (some (.ref a)) ∧ Ob P w K W.N H a d ∧ i < env.length := by
  obtain ⟨a, e1, e2, ob⟩ := ok.slots i _ e
  exact ⟨a, e1, e2, ob, (List.getElem?_eq_some_iff.mp e).1⟩
theorem kp_own {W : Wd} {H : Hp} {a : Addr} {o : HO} (h : W.N a) : Kp W.N H (upd H a o) := fun b u n q => (upd_ne fun z : b = a => n (by rw [z]; exact h)).trans q
theorem es_app (hv : PE X (.Name x p) (tVar i)) (he : EE X e me)
    (hbase : attributeBase (.Name x p) "append" X.env (eval (.Name x p) X.env) = eval (.Name x p) X.env := by rfl)
    (hfew : ((backTo cpos (starEach [e] X.env)).all (fun x => !x.1) && (backToKw cpos (keywordEach [] X.env)).all (fun x => x.1.isSome)
      && decide (([e] : List Expr).length + ([] : List Keyword).length + (if ([] : List Keyword).isEmpty then 0 else 1) < 30)) = true := by rfl)
    (hline : (apos.endLine == cpos.line) = true := by rfl) (hs : starEach [e] X.env = (false, eval e X.env) :: starEach [] X.env := by rfl) :
    ES X (.Expr (.Call (.Attribute (.Name x p) "append" apos) [e] [] cpos) pos) (sApp i me) :=
  ps_wk (ps_expr (pe_bm PySem.F.plainAttrs_list PySem.F.slot_list_append PySem.F.type_list_append mt_append hv (pa_cons he pa_nil hs) hbase hfew hline hs rfl) rfl) fun D σ H ⟨W, env, S, ok, o, e, h⟩ => by
    obtain ⟨⟨d, t, S1⟩, e1, e⟩ := Option.bind_eq_some_iff.mp e
    dsimp only at e
    split at e
    case h_2 => cases e
    rename_i ds q
    split at e
    case isFalse => cases e
    rename_i hz
    rw [Bool.and_eq_true] at hz
    cases e
    obtain ⟨a, e2, e3, ob, hi⟩ := own_at ok q
    cases ob with
    | lst e4 t4 =>
      rename_i vs
      refine ⟨.ref a, e3, .inl ⟨rfl, vs, .inl (.inl e4)⟩, ?_⟩
      refine tEv.use ok e1 fun v H1 ok1 k1 s1 hv => ?_
      have e5 : H1 a = some (.lst vs) := k1 a _ (ok.own0 i a e2).2 e4
      have t5 : Dens X.prog X.w X.K W.N H1 vs ds := t4.keep (kpN k1)
      refine ⟨a, vs, v, rfl, rfl, e5, by rw [sizeLine_eq, t5.length]; exact of_decide_eq_true hz.2, ?_⟩
      have hN : W.N a := .inr (.inl ⟨i, e2⟩)
      exact h W σ _ (Wd.Sim.refl W) (ok1.upd e2 hi (.lst upd_same ((t5.snoc (hv.clean ok hz.1)).keep (kp_own hN))))
theorem es_setIx (hv : PE X (.Name x p) (tVar i)) (hk : EE X k mk) (he : EE X e me) (hs : swapsWithSole [.Subscript (.Name x p) k apos] e pos.line X.env = pure false := by rfl)
    (hw : swappedStores [.Subscript (.Name x p) k apos] e X.env = pure none := by rfl) (h1 : (assignEach [.Subscript (.Name x p) k apos] X.env).map (·.2) = [assign (.Subscript (.Name x p) k apos) X.env] := by rfl)
    (ha : ∀ v, assign (.Subscript (.Name x p) k apos) X.env v = (do
      let ov ← holding [v] (eval (.Name x p) X.env)
      let iv ← holding [v, ov] (eval k X.env)
      standAt apos
      holding [v, ov, iv] (setItem ov iv v)
      release [v, ov, iv] []) := by intro _; rfl) :
    ES X (.Assign [.Subscript (.Name x p) k apos] e pos) (sSetIx i mk me) :=
  ps_wk (ps_asg he (pg_sub hv hk set_list ha) hs hw h1) fun D σ H ⟨W, env, S, ok, o, e, h⟩ => by
    obtain ⟨⟨d, t, S1⟩, e1, e⟩ := Option.bind_eq_some_iff.mp e
    obtain ⟨⟨dk, tk, S2⟩, e2, e⟩ := Option.bind_eq_some_iff.mp e
    dsimp only at e e2
    split at e
    case h_2 => cases e
    rename_i ds kk q
    split at e
    case isFalse => cases e
    rename_i hz
    rw [Bool.and_eq_true] at hz
    obtain ⟨j, ej, e⟩ := Option.map_eq_some_iff.mp e
    cases e
    obtain ⟨a, e3, e4, ob, hi⟩ := own_at ok q
    cases ob with
    | lst e5 t5 =>
      rename_i vs
      refine tEv.use ok e1 fun v H1 ok1 k1 s1 hv => ⟨.ref a, e4, ?_⟩
      refine tEv.use ok1 e2 fun y H2 ok2 k2 s2 hy => ?_
      have kk12 := k1.trans k2
      have e6 : H2 a = some (.lst vs) := kk12 a _ (ok.own0 i a e3).2 e5
      have t6 : Dens X.prog X.w X.K W.N H2 vs ds := t5.keep (kpN kk12)
      refine ⟨a, vs, kk, j, rfl, hy.int hz.2, e6, by rw [t6.length]; exact ej, ?_⟩
      have hN : W.N a := .inr (.inl ⟨i, e3⟩)
      exact h W σ _ (Wd.Sim.refl W) (ok2.upd e3 hi (.lst upd_same ((Dens.set ((hv.grow ok k2).clean ok hz.1) j t6).keep (kp_own hN))))
/-- xs[k], by values -/
theorem get_list : PGet X (rIxL X.K) := by
  intro pins s σ H x y v u Q I rx ry h
  obtain ⟨p, xs, i, z, rfl, rfl, hq, he, q⟩ := h
  cases rx
  obtain ⟨t, rfl⟩ := ry
  obtain ⟨its, r, pl, hz⟩ := I.list hq
  obtain ⟨j, h1, h2, h3, h4, h5⟩ := atI_get he
  obtain ⟨w, ew, rw'⟩ := r.get h2
  have hl := r.length
  have hn := line63
  have fin : EP X pins σ Q w s := ⟨z, H, I, rw', q⟩
  by_cases h0 : 0 ≤ i
  · have hj : i.toNat = j := by
      rw [PySem.seqIndex_of h0 h5] at h1
      exact Option.some.inj h1
    exact wpAny_getItem_list pl.isList h0 (by omega) (by rw [hj]; simpa using ew) fin
  · have hj : (i + (its.toArray.size : Int)).toNat = j := by
      rw [PySem.seqIndex_neg (by omega) h4] at h1
      rw [List.size_toArray, ← hl]
      exact Option.some.inj h1
    exact wpAny_getItem_list_neg pl.isList (by omega) (by rw [List.size_toArray] <;> omega) (by omega) (by rw [hj]; simpa using ew) fin
theorem es_augIx {op : Operator} {f : Int → Int → Int} (hop : PIp X op (ipI f)) (hv : PE X (.Name x p) (tVar i)) (hk : EE X k mk) (he : EE X e me)
    (ha : ∀ ov iv new, augStore k ov iv new = (do holding [new, ov, iv] (setItem ov iv new); release [new, ov, iv] []; pure .next) := by intros; rfl) :
    ES X (.AugAssign (.Subscript (.Name x p) k apos) op e pos) (sAugIx f i mk me) :=
  ps_wk (ps_augS hv hk get_list he hop set_list ha) fun D σ H ⟨W, env, S, ok, o, e, h⟩ => by
    obtain ⟨⟨dk, tk, S1⟩, e1, e⟩ := Option.bind_eq_some_iff.mp e
    obtain ⟨⟨d, t, S2⟩, e2, e⟩ := Option.bind_eq_some_iff.mp e
    dsimp only at e e2
    split at e
    case h_2 => cases e
    rename_i ds kk b q _
    split at e
    case isFalse => cases e
    rename_i hz
    rw [Bool.and_eq_true] at hz
    obtain ⟨j, ej, e⟩ := Option.bind_eq_some_iff.mp e
    split at e
    case h_2 => cases e
    rename_i aa ea
    cases e
    obtain ⟨a, e3, e4, ob, hi⟩ := own_at ok q
    cases ob with
    | lst e5 t5 =>
      rename_i vs
      refine ⟨.ref a, e4, ?_⟩
      refine tEv.use ok e1 fun y H1 ok1 k1 s1 hy => ?_
      have e6 : H1 a = some (.lst vs) := k1 a _ (ok.own0 i a e3).2 e5
      have t6 : Dens X.prog X.w X.K W.N H1 vs ds := t5.keep (kpN k1)
      obtain ⟨z, ez, dz⟩ := t6.get' ea
      cases dz
      refine ⟨a, vs, kk, .int aa, rfl, hy.int hz.1, .inl (.inl e6), ?_, ?_⟩
      · unfold atI
        rw [t6.length, ej]
        exact ez
      refine tEv.use ok1 e2 fun u H2 ok2 k2 s2 hu => ?_
      have kk12 := k1.trans k2
      have e7 : H2 a = some (.lst vs) := kk12 a _ (ok.own0 i a e3).2 e5
      have t7 : Dens X.prog X.w X.K W.N H2 vs ds := t5.keep (kpN kk12)
      refine ⟨aa, b, rfl, hu.int hz.2, a, vs, kk, j, rfl, hy.int hz.1, e7, by rw [t7.length]; exact ej, ?_⟩
      have hN : W.N a := .inr (.inl ⟨i, e3⟩)
      exact h W σ _ (Wd.Sim.refl W) (ok2.upd e3 hi (.lst upd_same ((Dens.set (Den.int _) j t7).keep (kp_own hN))))
end

/-! ### targets -/
inductive Tg where
  | n (i : Nat)
  | t (l : List Tg)
mutual
/-- what a target does, as data -/
def Tg.set : Tg → PyData → En → Option En
  | .n i, d, env => if i < env.length then some (env.set i (.cl d)) else none
  | .t l, d, env => match d with
    | .tuple ds => Tg.sets l ds env
    | _ => none
def Tg.sets : List Tg → List PyData → En → Option En
  | [], [], env => some env
  | g :: gs, d :: ds, env => (Tg.set g d env).bind fun env' => Tg.sets gs ds env'
  | _, _, _ => none
end
mutual
/-- .. over the judgements -/
def Tg.g (K : PySem.W.Frag) : Tg → TG
  | .n i => gName i
  | .t l => gTup K l.length (Tg.gs K l)
def Tg.gs (K : PySem.W.Frag) : List Tg → TGs
  | [] => gNil
  | g :: gs => gCons (Tg.g K g) (Tg.gs K gs)
end
mutual
/-- the slots that are stored -/
def Tg.sl : Tg → List Nat
  | .n i => [i]
  | .t l => Tg.sls l
def Tg.sls : List Tg → List Nat
  | [] => []
  | g :: gs => Tg.sl g ++ Tg.sls gs
end
section
variable {X : Cx} {e : Expr} {es : List Expr} {pos : Pos}
abbrev EG (X : Cx) (e : Expr) (g : Tg) : Prop := PG X e (g.g X.K)
theorem eg_name {i : Nat} {x : Str} (hN : X.N.Nodup) (hi : X.N[i]? = some x) (hx : Loc X.env.scope x) (hf : X.fn x = true ∨ X.env.scope.names.lookup x = some .local := by first | exact .inl rfl | exact .inr rfl | assumption) : EG X (.Name x pos) (.n i) := pg_name hN hi hx hf
theorem egs_nil : PGs X [] (Tg.gs X.K []) := pgs_nil
theorem egs_cons {g : Tg} {gs : List Tg} (h1 : EG X e g) (h2 : PGs X es (Tg.gs X.K gs)) (hs : (assignEach (e :: es) X.env).map (·.2) = assign e X.env :: (assignEach es X.env).map (·.2) := by rfl) : PGs X (e :: es) (Tg.gs X.K (g :: gs)) := pgs_cons h1 h2 hs
theorem eg_tup {k : Nat} {gs : List Tg} (hc : X.calm = true) (h : PGs X es (Tg.gs X.K gs)) (hn : (assignEach es X.env).length = gs.length := by rfl) (hst : (assignEach es X.env).findIdx? (·.1) = none := by rfl) : EG X (.Tuple es k pos) (.t gs) := pg_tup hc h hn hst
end
theorem wipe_set {vs : List Nat} : ∀ {σ : L2.St} {i : Nat} {x : Option V}, i ∈ vs → wipe (σ.set i x) vs = wipe σ vs := by
  induction vs with
  | nil => intro σ i x h; cases h
  | cons v vs ih =>
    intro σ i x h
    unfold wipe
    by_cases hi : i ∈ vs
    · rw [ih hi]
    · have hv : i = v := by
        rcases List.mem_cons.mp h with h | h
        · exact h
        · exact absurd h hi
      subst hv
      refine List.ext_getElem? fun j => ?_
      by_cases hj : j = i
      · subst hj
        by_cases hl : j < σ.length
        · rw [List.getElem?_set_self (by rw [wipe_length, List.length_set]; exact hl), List.getElem?_set_self (by rw [wipe_length]; exact hl)]
        · rw [List.getElem?_eq_none (by rw [List.length_set, wipe_length, List.length_set]; omega), List.getElem?_eq_none (by rw [List.length_set, wipe_length]; omega)]
      · rw [List.getElem?_set_ne (Ne.symm hj), List.getElem?_set_ne (Ne.symm hj)]
        -- elsewhere
        have key : ∀ (ws : List Nat), (wipe (σ.set i x) ws)[j]? = (wipe σ ws)[j]? := by
          intro ws
          induction ws with
          | nil => exact List.getElem?_set_ne (Ne.symm hj)
          | cons w ws ih2 =>
            unfold wipe
            by_cases hw : w = j
            · subst hw
              by_cases hl : w < σ.length
              · rw [List.getElem?_set_self (by rw [wipe_length, List.length_set]; exact hl), List.getElem?_set_self (by rw [wipe_length]; exact hl)]
              · rw [List.getElem?_eq_none (by rw [List.length_set, wipe_length, List.length_set]; omega), List.getElem?_eq_none (by rw [List.length_set, wipe_length]; omega)]
            · rw [List.getElem?_set_ne hw, List.getElem?_set_ne hw, ih2]
        exact key vs
section
variable {P : Program} {w : World} {K : PySem.W.Frag}
mutual
theorem Tg.run {W : Wd} {σ : L2.St} {H : Hp} {env env' : En} {S : SS} {v : V} {Q : L2.St → Hp → Prop} (vs : List Nat) : ∀ (g : Tg) (d : PyData), StOk P w K W σ H env S → Den P w K W.N H v d → Tg.set g d env = some env' → (∀ i ∈ g.sl, i ∈ vs) →
    (∀ W' σ', W.Sim W' → ((∀ a, W'.N a → W.N a) ∧ ∀ j a, j ∉ vs → W.own j = some a → W'.own j = some a) → StOk P w K W' σ' H env' S → wipe σ' vs = wipe σ vs → Q σ' H) → Tg.g K g v σ H Q
  | .n i, d, ok, hd, e, hv, h => by
    simp only [Tg.set] at e
    split at e
    case isFalse => cases e
    rename_i hi
    cases e
    refine h _ _ (sim_dr W i) ⟨fun _ => dr_N, fun j a nj e => ?_⟩ (ok.setCl hi hd) (wipe_set (hv i (by simp [Tg.sl])))
    show (if j = i then none else W.own j) = some a
    rw [if_neg (fun z => nj (by rw [z]; exact hv i (by simp [Tg.sl])))]
    exact e
  | .t l, d, ok, hd, e, hv, h => by
    simp only [Tg.set] at e
    split at e
    case h_2 => cases e
    cases hd with
    | tup h1 t1 =>
      rename_i us
      refine ⟨_, us, rfl, sqT_of h1, ?_, Tg.runs vs l _ us ok t1 e (fun i hi => hv i (by simpa [Tg.sl] using hi)) h⟩
      rw [t1.length]
      exact Tg.sets_len l _ _ _ e
theorem Tg.runs {W : Wd} {σ : L2.St} {H : Hp} {env env' : En} {S : SS} {Q : L2.St → Hp → Prop} (vs : List Nat) : ∀ (gs : List Tg) (ds : List PyData) (us : List V), StOk P w K W σ H env S → Dens P w K W.N H us ds → Tg.sets gs ds env = some env' → (∀ i ∈ Tg.sls gs, i ∈ vs) →
    (∀ W' σ', W.Sim W' → ((∀ a, W'.N a → W.N a) ∧ ∀ j a, j ∉ vs → W.own j = some a → W'.own j = some a) → StOk P w K W' σ' H env' S → wipe σ' vs = wipe σ vs → Q σ' H) → Tg.gs K gs us σ H Q
  | [], ds, us, ok, hd, e, hv, h => by
    cases ds with
    | nil =>
      simp only [Tg.sets] at e
      cases e
      cases hd
      exact ⟨rfl, h W σ (Wd.Sim.refl W) ⟨fun _ z => z, fun _ _ _ z => z⟩ ok rfl⟩
    | cons d ds => simp only [Tg.sets] at e; cases e
  | g :: gs, ds, us, ok, hd, e, hv, h => by
    cases ds with
    | nil => simp only [Tg.sets] at e; cases e
    | cons d ds =>
      simp only [Tg.sets] at e
      obtain ⟨env1, e1, e2⟩ := Option.bind_eq_some_iff.mp e
      cases hd with
      | cons hd td =>
        rename_i u us
        refine ⟨u, us, rfl, Tg.run vs g d ok hd e1 (fun i hi => hv i (by simp [Tg.sls, hi])) fun W1 σ1 s1 n1 ok1 w1 => ?_⟩
        refine Tg.runs vs gs ds us ok1 (td.mono n1.1) e2 (fun i hi => hv i (by simp [Tg.sls, hi])) fun W2 σ2 s2 n2 ok2 w2 => ?_
        exact h W2 σ2 (s1.trans s2) ⟨fun a z => n1.1 a (n2.1 a z), fun j a nj e => n2.2 j a nj (n1.2 j a nj e)⟩ ok2 (w2.trans w1)
theorem Tg.sets_len : ∀ (gs : List Tg) (ds : List PyData) (env env' : En), Tg.sets gs ds env = some env' → ds.length = gs.length
  | [], [], _, _, _ => rfl
  | [], _ :: _, _, _, e => by simp only [Tg.sets] at e; cases e
  | _ :: _, [], _, _, e => by simp only [Tg.sets] at e; cases e
  | g :: gs, d :: ds, env, env', e => by
    simp only [Tg.sets] at e
    obtain ⟨env1, e1, e2⟩ := Option.bind_eq_some_iff.mp e
    rw [List.length_cons, List.length_cons, Tg.sets_len gs ds _ _ e2]
end
end
/-- (a, b) = e: the data is clean -/
def sTup (g : Tg) (m : ED) : SD := fun env S => (m env S).bind fun r => if r.2.1.cln then (Tg.set g r.1 env).map fun env' => .nx env' r.2.2 else none
section
variable {X : Cx} {tg e : Expr} {g : Tg} {m : ED} {pos : Pos}
theorem es_tup (he : EE X e m) (hg : EG X tg g) (hs : swapsWithSole [tg] e pos.line X.env = pure false := by rfl) (hw : swappedStores [tg] e X.env = pure none := by rfl)
    (h1 : (assignEach [tg] X.env).map (·.2) = [assign tg X.env] := by rfl) : ES X (.Assign [tg] e pos) (sTup g m) := ps_wk (ps_asg he hg hs hw h1) fun D σ H ⟨W, env, S, ok, o, e, h⟩ => by
  obtain ⟨⟨d, t, S1⟩, e1, e⟩ := Option.bind_eq_some_iff.mp e
  dsimp only at e
  split at e
  case isFalse => cases e
  rename_i hr
  obtain ⟨env', e2, e⟩ := Option.map_eq_some_iff.mp e
  cases e
  refine tEv.use ok e1 fun v H1 ok1 k1 s1 hv => ?_
  exact Tg.run g.sl g d ok1 (hv.clean ok hr) e2 (fun _ z => z) fun W' σ' s _ ok' _ => h W' σ' H1 s ok'
end
/-- an object that is on the way is kept from what comes -/
def Wd.gd (W : Wd) (a : Addr) (u : HO) : Wd := { W with H0 := fun b => if b = a then some u else W.H0 b, bad := fun b => W.bad b ∨ b = a }
theorem gd_N {W : Wd} {a b : Addr} {u : HO} (h : (W.gd a u).N b) : W.N b ∨ b = a := by
  rcases h with h | h | h
  · exact h.elim (fun z => .inl (.inl z)) .inr
  · exact .inl (.inr (.inl h))
  · exact .inl (.inr (.inr h))
theorem gd_of {W : Wd} {a b : Addr} {u : HO} (h : W.N b ∨ b = a) : (W.gd a u).N b := by
  rcases h with (h | h | h) | h
  · exact .inl (.inl h)
  · exact .inr (.inl h)
  · exact .inr (.inr h)
  · exact .inl (.inr h)
section
variable {P : Program} {w : World} {K : PySem.W.Frag} {W : Wd} {σ : L2.St} {H H' : Hp} {env : En} {S S' : SS}
theorem StOk.guard (ok : StOk P w K W σ H env S) (k : Kp W.S H H') (s : SrcOk W H' S') {a : Addr} {u : HO} (hn : H a = none) (e : H' a = some u) (nt : ∀ vs, u ≠ .tup vs) : StOk P w K (W.gd a u) σ H' env S' where
  len := ok.len
  base := fun b z q n => by
    have q' : (if b = a then some u else W.H0 b) = some z := q
    split at q'
    · rename_i hb
      cases q'
      rw [hb]; exact e
    · exact k b z n (ok.base b z q' n)
  own0 := fun i b q => by
    refine ⟨?_, (ok.own0 i b q).2⟩
    have nb : b ≠ a := fun z => ok.fresh hn (.inr (.inl ⟨i, z ▸ q⟩))
    show (if b = a then some u else W.H0 b) = none
    rw [if_neg nb]
    exact (ok.own0 i b q).1
  inj := ok.inj
  osl := ok.osl
  bad0 := fun b z => by
    show ∃ u', (if b = a then some u else W.H0 b) = some u' ∧ _
    by_cases hb : b = a
    · rw [if_pos hb]; exact ⟨u, rfl, nt⟩
    · rw [if_neg hb]; exact ok.bad0 b (z.elim id fun z => absurd z hb)
  slots := fun i sl q => by
    have tr : ∀ b z, ¬ W.N b → H b = some z → ¬ (W.gd a u).N b ∧ H' b = some z := fun b z n q => ⟨fun y => (gd_N y).elim n (ne_of_none q hn), kpN k b z n q⟩
    have h := ok.slots i sl q
    cases sl with
    | un => exact h
    | cl d => obtain ⟨v, e1, h⟩ := h; exact ⟨v, e1, h.imp tr⟩
    | ow d =>
      obtain ⟨b, e1, e2, h⟩ := h
      exact ⟨b, e1, e2, h.imp tr fun z q => k b z (ok.own0 i b e1).2 q⟩
    | sr => exact h
  src := by
    cases S' with
    | none => exact s
    | some s0 => exact s
end
/-- a, b = x, y: names, stored together -/
def sPar (i j : Nat) (ma mb : ED) : SD := fun env S => (ma env S).bind fun r => (mb env r.2.2).bind fun q => if i < env.length && j < env.length then (match r.2.1, q.2.1 with
  | .cl, .cl => some (.nx ((env.set i (.cl r.1)).set j (.cl q.1)) q.2.2)
  | .cl, .fr => some (.nx ((env.set i (.cl r.1)).set j (.ow q.1)) q.2.2)
  | .fr, .cl => some (.nx ((env.set i (.ow r.1)).set j (.cl q.1)) q.2.2)
  | .fr, .fr => some (.nx ((env.set i (.ow r.1)).set j (.ow q.1)) q.2.2)
  | _, _ => none) else none
section
variable {X : Cx} {a b : Expr} {ma mb : ED} {i j : Nat} {x y : Str} {px py pt pos : Pos} {kt k2 : Nat} {pt2 : Pos}
theorem par_read {P : Program} {w : World} {K : PySem.W.Frag} {D : Ends} {σ : L2.St} {H : Hp} (h : tEvS P w K (sPar i j ma mb) D σ H) : tCons (tEv P w K ma) (tCons (tEv P w K mb) tNil) σ H fun vs H1 => ∃ v u, vs = [v, u] ∧ D.nx ((σ.set i (some v)).set j (some u)) H1 := by
    obtain ⟨W, env, S, ok, o, e, h⟩ := h
    obtain ⟨⟨d1, t1, S1⟩, e1, e⟩ := Option.bind_eq_some_iff.mp e
    obtain ⟨⟨d2, t2, S2⟩, e2, e⟩ := Option.bind_eq_some_iff.mp e
    dsimp only at e e2
    split at e
    case isFalse => cases e
    rename_i hl
    rw [Bool.and_eq_true] at hl
    have l1 : i < env.length := of_decide_eq_true hl.1
    have l2 : j < env.length := of_decide_eq_true hl.2
    refine tEv.use ok e1 fun v H1 ok1 k1 s1 hv => ?_
    split at e
    · cases e
      refine tEv.use ok1 e2 fun u H2 ok2 k2 s2 hu => ⟨v, u, rfl, ?_⟩
      have hv2 : Den P w K W.N H2 v d1 := hv.grow (t := .cl) ok k2
      have hu2 : Den P w K W.N H2 u d2 := hu
      have o1 := ok2.setCl l1 hv2
      have o2 := o1.setCl (i := j) (by rw [List.length_set]; exact l2) (hu2.mono fun _ => dr_N)
      exact h _ _ H2 ((sim_dr W i).trans (sim_dr _ j)) o2
    · cases e
      refine tEv.use ok1 e2 fun u H2 ok2 k2 s2 hu => ⟨v, u, rfl, ?_⟩
      obtain ⟨b, rfl, hn, ob⟩ := hu
      have hv1 : Den P w K W.N H1 v d1 := hv
      have o1 := ok1.setCl l1 hv1
      have o2 := o1.setOw (i := j) (d := d2) k2 (src_sim (sim_dr W i) s2) (by rw [List.length_set]; exact l2) hn (ob.imp (fun c u n q => ⟨fun z => n (z.elim (fun z => .inl (dr_N z)) .inr), q⟩) fun _ q => q)
      exact h _ _ H2 ((sim_dr W i).trans (sim_ad _ j b)) o2
    · cases e
      obtain ⟨a1, rfl, hn, ob⟩ := hv
      obtain ⟨u1, eu1, nu1⟩ := ob.some'
      refine tEv.use (ok.guard k1 s1 hn eu1 nu1) e2 fun u H2 ok2 k2 s2 hu => ⟨.ref a1, u, rfl, ?_⟩
      have hu2 : Den P w K (W.gd a1 u1).N H2 u d2 := hu
      have ob2 : Ob P w K (fun b => W.N b ∨ b = a1) H2 a1 d1 := ob.imp (fun c u n q => ⟨n, k2 c u (fun z => n (.inl (SN z))) q⟩) fun u q => k2 a1 u (fun z => ok.fresh hn (SN z)) q
      have o1 := ok.setOw (i := i) (d := d1) (k1.trans k2) s2 l1 hn ob2
      have o2 := o1.setCl (i := j) (by rw [List.length_set]; exact l2) (hu2.mono fun b z => gd_of ((ad_N z).elim .inl .inr))
      exact h _ _ H2 ((sim_ad W i a1).trans (sim_dr _ j)) o2
    · cases e
      obtain ⟨a1, rfl, hn, ob⟩ := hv
      obtain ⟨u1, eu1, nu1⟩ := ob.some'
      refine tEv.use (ok.guard k1 s1 hn eu1 nu1) e2 fun u H2 ok2 k2 s2 hu => ⟨.ref a1, u, rfl, ?_⟩
      obtain ⟨b, rfl, hnb, obb⟩ := hu
      have o1 := ok.setOw (i := i) (d := d1) k1 s1 l1 hn ob
      have o2 := o1.setOw (i := j) (d := d2) k2 (src_sim (sim_ad W i a1) s2) (by rw [List.length_set]; exact l2) hnb (obb.imp (fun c u n q => ⟨fun z => n (z.elim (fun z => .inl (gd_of ((ad_N z).elim .inl .inr))) .inr), q⟩) fun _ q => q)
      exact h _ _ H2 ((sim_ad W i a1).trans (sim_ad _ j b)) o2
    · cases e
theorem es_par (hx : X.env.scope.names.lookup x = some .local) (hy : X.env.scope.names.lookup y = some .local) (ha : EE X a ma) (hb : EE X b mb)
    (hw : swappedStores [.Tuple [.Name x px, .Name y py] kt pt] (.Tuple [a, b] k2 pt2) X.env = pure (some [x, y])) (hc : X.calm = true) (hN : X.N.Nodup) (hi : X.N[i]? = some x) (hj : X.N[j]? = some y) (hij : i ≠ j)
    (hs : swapsWithSole [.Tuple [.Name x px, .Name y py] kt pt] (.Tuple [a, b] k2 pt2) pos.line X.env = pure false := by rfl)
    (s1 : starEach [a, b] X.env = (false, eval a X.env) :: starEach [b] X.env := by rfl) (s2 : starEach [b] X.env = (false, eval b X.env) :: starEach [] X.env := by rfl) :
    ES X (.Assign [.Tuple [.Name x px, .Name y py] kt pt] (.Tuple [a, b] k2 pt2) pos) (sPar i j ma mb) :=
  ps_wk (ps_par hc hN hi hj hij hx hy (pa_cons ha (pa_cons hb pa_nil s2) s1) hw hs) fun D σ H h => par_read h
end
end Ev

namespace Ev
open PySem L2

/-! ### what is walked -/
abbrev ID := En → SS → Option (List PyData × SS)
section
variable (P : Program) (w : World) (K : PySem.W.Frag)
/-- what one turn yields: a thing that stood, or a new tuple of such things -/
def Yl (N : Addr → Prop) (Hb H : Hp) (x : V) (H' : Hp) (d : PyData) : Prop :=
  (H' = H ∧ Den P w K N Hb x d) ∨ ∃ (T : Addr) (vs : List V) (ds : List PyData), d = .tuple ds ∧ x = .ref T ∧ H T = none ∧ H' = upd H T (.tup vs) ∧ Dens P w K N Hb vs ds
structure Wk (N M : Addr → Prop) (Hb : Hp) (J : It) (ds : List PyData) : Prop where
  go : ∀ i H, Kp M Hb H → i < ds.length → J.go i H
  yl : ∀ i H x H' d, Kp M Hb H → ds[i]? = some d → J.yld i H x H' → Yl P w K N Hb H x H' d
  stop : ∀ i H, Kp M Hb H → ds.length ≤ i → J.stop i H
def tEvI (M : Wd → Addr → Prop) (m : ID) : TI := fun σ H R => ∃ (W : Wd) (env : En) (S : SS), StOk P w K W σ H env S ∧ ∃ ds S', m env S = some (ds, S') ∧
  ∀ J H', Kp W.S H H' → SrcOk W H' S' → Wk P w K W.N (M W) H' J ds → R J H'
end
/-- for a for: nobody changes what is walked; for a comprehension: a slot's own object may be walked too -/
abbrev EI (X : Cx) (tg iter : Expr) (m : ID) : Prop := PI X tg iter (tEvI X.prog X.w X.K Wd.N m)
abbrev EIc (X : Cx) (tg iter : Expr) (m : ID) : Prop := PI X tg iter (tEvI X.prog X.w X.K Wd.S m)
def iSeq (ok : Tag → Bool) (m : ED) : ID := fun env S => (m env S).bind fun r => if ok r.2.1 then (match r.1 with
  | .list ds => some (ds, r.2.2)
  | .tuple ds => some (ds, r.2.2)
  | _ => none) else none
def iRan1 (ms : EDs) : ID := fun env S => (ms env S).bind fun r => match r.1 with
  | [(.int j, t)] => if t.rd && decide (j < 4611686018427387904) && decide (-4611686018427387904 ≤ j) then some ((List.range j.toNat).map fun i => .int ((i : Nat) : Int), r.2) else none
  | _ => none
def iRan2 (ms : EDs) : ID := fun env S => (ms env S).bind fun r => match r.1 with
  | [(.int i, t), (.int j, u)] => if t.rd && u.rd && decide (j < 4611686018427387904) && decide (-4611686018427387904 ≤ j) && decide (i < 4611686018427387904) && decide (-4611686018427387904 ≤ i) then
      some ((List.range (j - i).toNat).map fun k => .int (i + ((k : Nat) : Int)), r.2) else none
  | _ => none
section
variable {X : Cx} {tg iter e : Expr} {m : ED} {ms : EDs} {pos p : Pos}
theorem pi_wk {t t' : TI} (h : PI X tg iter t) (hw : ∀ σ H R, t' σ H R → t σ H R) : PI X tg iter t' := ⟨fun pins s σ H R I q => h.run pins s σ H R I (hw σ H R q)⟩
theorem pi_or {t t' : TI} (h : PI X tg iter t) (h' : PI X tg iter t') : PI X tg iter (fun σ H R => t σ H R ∨ t' σ H R) := ⟨fun pins s σ H R I q => q.elim (h.run pins s σ H R I) (h'.run pins s σ H R I)⟩
theorem sqT_keep {K : PySem.W.Frag} {N : Addr → Prop} {H H' : Hp} {a : Addr} {vs : List V} (h : (H a = some (.tup vs) ∧ ¬ N a) ∨ SqT K (fun _ => none) a vs) (k : Kp N H H') : SqT K H' a vs :=
  sqT_of (N := N) (h.elim (fun z => .inl ⟨k a _ z.2 z.1, z.2⟩) .inr)
/-- the script as a place: one list, one tuple at an address -/
theorem wk_list {P : Program} {w : World} {K : PySem.W.Frag} {N M : Addr → Prop} {H : Hp} {a : Addr} {vs : List V} {ds : List PyData} (h : H a = some (.lst vs)) (n : ¬ M a) (t : Dens P w K N H vs ds) : Wk P w K N M H (Itl K a) ds where
  go := fun i H' k hi => by
    rw [← t.length] at hi
    exact ⟨vs, vs[i], .inl (.inl (k a _ n h)), List.getElem?_eq_getElem hi⟩
  yl := fun i H1 x H' d k e y => by
    obtain ⟨rfl, y⟩ := y
    have q := y vs (.inl (.inl (k a _ n h)))
    obtain ⟨d', e', hd⟩ := t.get q
    rw [e] at e'; cases e'
    exact .inl ⟨rfl, hd⟩
  stop := fun i H' k hi => ⟨vs, .inl (.inl (k a _ n h)), by rw [t.length]; exact hi⟩
theorem wk_tup {P : Program} {w : World} {K : PySem.W.Frag} {N M : Addr → Prop} {H : Hp} {a : Addr} {vs : List V} {ds : List PyData} (h : (H a = some (.tup vs) ∧ ¬ M a) ∨ SqT K (fun _ => none) a vs) (t : Dens P w K N H vs ds) : Wk P w K N M H (Itt K a) ds where
  go := fun i H' k hi => by
    rw [← t.length] at hi
    exact ⟨vs, vs[i], sqT_keep h k, List.getElem?_eq_getElem hi⟩
  yl := fun i H1 x H' d k e y => by
    obtain ⟨rfl, y⟩ := y
    have q := y vs (sqT_keep h k)
    obtain ⟨d', e', hd⟩ := t.get q
    rw [e] at e'; cases e'
    exact .inl ⟨rfl, hd⟩
  stop := fun i H' k hi => ⟨vs, sqT_keep h k, by rw [t.length]; exact hi⟩
theorem wk_range {P : Program} {w : World} {K : PySem.W.Frag} {N M : Addr → Prop} {H : Hp} {lo : Int} {n : Nat} : Wk P w K N M H (Itr lo n) ((List.range n).map fun k => .int (lo + ((k : Nat) : Int))) where
  go := fun i H' k hi => show i < n by simpa using hi
  yl := fun i H1 x H' d k e y => by
    obtain ⟨rfl, rfl⟩ := y
    rw [List.getElem?_map] at e
    obtain ⟨j, e1, e2⟩ := Option.map_eq_some_iff.mp e
    obtain ⟨hl, e3⟩ := List.getElem?_eq_some_iff.mp e1
    rw [List.getElem_range] at e3
    subst e3 e2
    exact .inl ⟨rfl, Den.int _⟩
  stop := fun i H' k hi => show n ≤ i by simpa using hi
theorem ei_seq (h : EE X e m) : EI X tg e (iSeq Tag.cln m) := pi_wk (pi_or (pi_list h) (pi_tup h)) fun σ H R ⟨W, env, S, ok, ds, S', e, h⟩ => by
  obtain ⟨⟨d, t, S1⟩, e1, e⟩ := Option.bind_eq_some_iff.mp e
  dsimp only at e
  split at e
  case isFalse => cases e
  rename_i hr
  have hrd : t.rd = true := by cases t <;> first | rfl | cases hr
  split at e
  · cases e
    refine .inl (tEv.use ok e1 fun v H1 ok1 k1 s1 hv => ?_)
    cases hv.clean ok hr with
    | lst h1 n1 t1 => exact ⟨_, rfl, ⟨_, .inl (.inl h1)⟩, h _ H1 k1 s1 (wk_list h1 n1 t1)⟩
  · cases e
    refine .inr (tEv.use ok e1 fun v H1 ok1 k1 s1 hv => ?_)
    cases hv.clean ok hr with
    | tup h1 t1 => exact ⟨_, rfl, ⟨_, sqT_of h1⟩, h _ H1 k1 s1 (wk_tup h1 t1)⟩
  · cases e
theorem eic_seq (h : EE X e m) : EIc X tg e (iSeq Tag.rd m) := pi_wk (pi_or (pi_list h) (pi_tup h)) fun σ H R ⟨W, env, S, ok, ds, S', e, h⟩ => by
  obtain ⟨⟨d, t, S1⟩, e1, e⟩ := Option.bind_eq_some_iff.mp e
  dsimp only at e
  split at e
  case isFalse => cases e
  rename_i hr
  split at e
  · cases e
    refine .inl (tEv.use ok e1 fun v H1 ok1 k1 s1 hv => ?_)
    have nS : ∀ a, v = .ref a → ¬ W.S a := fun a ea => by
      cases t with
      | cl =>
        cases hv with
        | lst h1 n1 t1 => cases ea; exact fun z => n1 (SN z)
      | fr =>
        obtain ⟨b, eb, nb, _⟩ := hv
        rw [eb] at ea; cases ea
        exact fun z => ok.fresh nb (SN z)
      | tp i =>
        obtain ⟨b, eb, e2, _⟩ := hv
        rw [e2] at ea; cases ea
        exact (ok.own0 i _ eb).2
      | sr => cases hr
    obtain ⟨a, vs, rfl, h1, t1⟩ := hv.lst hr
    exact ⟨_, rfl, ⟨_, .inl (.inl h1)⟩, h _ H1 k1 s1 (wk_list h1 (nS a rfl) t1)⟩
  · cases e
    refine .inr (tEv.use ok e1 fun v H1 ok1 k1 s1 hv => ?_)
    obtain ⟨a, vs, rfl, h1, t1, w1⟩ := hv.tup hr
    exact ⟨_, rfl, ⟨_, h1⟩, h _ H1 k1 s1 (wk_tup (w1.elim (fun z => .inl ⟨z.1, fun y => z.2 (SN y)⟩) .inr) t1)⟩
  · cases e
theorem ran1_read {P : Program} {w : World} {K : PySem.W.Frag} {M : Wd → Addr → Prop} {σ : L2.St} {H : Hp} {R : It → Hp → Prop} (h : tEvI P w K M (iRan1 ms) σ H R) : iRng1 (tEvs P w K ms) σ H R := by
  obtain ⟨W, env, S, ok, ds, S', e, h⟩ := h
  obtain ⟨⟨as, S1⟩, e1, e⟩ := Option.bind_eq_some_iff.mp e
  dsimp only at e
  split at e
  case h_2 => cases e
  split at e
  case isFalse => cases e
  rename_i hz
  simp only [Bool.and_eq_true, decide_eq_true_eq] at hz
  cases e
  refine tEvs.use ok e1 fun vs H1 ok1 k1 s1 hv => ?_
  obtain ⟨v, rfl, h1⟩ := vs1 hv
  refine ⟨_, by rw [h1.int hz.1.1], by omega, by omega, h _ H1 k1 s1 ?_⟩
  have := wk_range (P := P) (w := w) (K := K) (N := W.N) (M := M W) (H := H1) (lo := 0) (n := Int.toNat ‹Int›)
  simpa using this
theorem ran2_read {P : Program} {w : World} {K : PySem.W.Frag} {M : Wd → Addr → Prop} {σ : L2.St} {H : Hp} {R : It → Hp → Prop} (h : tEvI P w K M (iRan2 ms) σ H R) : iRng2 (tEvs P w K ms) σ H R := by
  obtain ⟨W, env, S, ok, ds, S', e, h⟩ := h
  obtain ⟨⟨as, S1⟩, e1, e⟩ := Option.bind_eq_some_iff.mp e
  dsimp only at e
  split at e
  case h_2 => cases e
  split at e
  case isFalse => cases e
  rename_i hz
  simp only [Bool.and_eq_true, decide_eq_true_eq] at hz
  cases e
  refine tEvs.use ok e1 fun vs H1 ok1 k1 s1 hv => ?_
  obtain ⟨v, u, rfl, h1, h2⟩ := vs2 hv
  refine ⟨_, _, by rw [h1.int hz.1.1.1.1.1, h2.int hz.1.1.1.1.2], by omega, h _ H1 k1 s1 wk_range⟩
theorem ei_ran1 {a : Expr} (hg : Gl X "range") (hm : X.mg "range" = none) (ha : EA X [a] ms) (hs : starEach [a] X.env = [(false, eval a X.env)] := by rfl) : EI X tg (.Call (.Name "range" p) [a] [] pos) (iRan1 ms) := pi_wk (pi_range1 hg hm ha hs) fun _ _ _ h => ran1_read h
theorem eic_ran1 {a : Expr} (hg : Gl X "range") (hm : X.mg "range" = none) (ha : EA X [a] ms) (hs : starEach [a] X.env = [(false, eval a X.env)] := by rfl) : EIc X tg (.Call (.Name "range" p) [a] [] pos) (iRan1 ms) := pi_wk (pi_range1 hg hm ha hs) fun _ _ _ h => ran1_read h
theorem ei_ran2 {a b : Expr} (hg : Gl X "range") (hm : X.mg "range" = none) (ha : EA X [a, b] ms) (hs : starEach [a, b] X.env = [(false, eval a X.env), (false, eval b X.env)] := by rfl) (hs2 : starEach [b] X.env = [(false, eval b X.env)] := by rfl) : EI X tg (.Call (.Name "range" p) [a, b] [] pos) (iRan2 ms) := pi_wk (pi_range2 hg hm ha hs hs2) fun _ _ _ h => ran2_read h
theorem eic_ran2 {a b : Expr} (hg : Gl X "range") (hm : X.mg "range" = none) (ha : EA X [a, b] ms) (hs : starEach [a, b] X.env = [(false, eval a X.env), (false, eval b X.env)] := by rfl) (hs2 : starEach [b] X.env = [(false, eval b X.env)] := by rfl) : EIc X tg (.Call (.Name "range" p) [a, b] [] pos) (iRan2 ms) := pi_wk (pi_range2 hg hm ha hs hs2) fun _ _ _ h => ran2_read h
end

/-! ### for -/
def loopF (g : Tg) (body : SD) : List PyData → SD
  | [] => fun env S => some (.nx env S)
  | d :: r => fun env S => (g.set d env).bind fun env1 => (body env1 S).bind fun o => match o with
    | .nx e s => loopF g body r e s
    | .ct e s => loopF g body r e s
    | .bk e s => some (.nx e s)
    | .rt d t s => some (.rt d t s)
def sFor (it : ID) (g : Tg) (body : SD) : SD := fun env S => (it env S).bind fun r => loopF g body r.1 env r.2
section
variable {P : Program} {w : World} {K : PySem.W.Frag} {W W' : Wd} {σ σ' : L2.St} {H H' Hb : Hp} {env env' : En} {S S' : SS} {x : V} {d : PyData}
open Classical in
/-- what stands at a loop's start, all of it but one's own -/
noncomputable def Wd.rbs (W : Wd) (H : Hp) : Wd := { W with H0 := fun a => if ∃ i, W.own i = some a then none else H a }
open Classical in
theorem rbs_ok (ok : StOk P w K W σ H env S) : StOk P w K (W.rbs H) σ H env S where
  len := ok.len
  base := fun a u e n => by
    have e' : (if ∃ i, W.own i = some a then none else H a) = some u := e
    split at e'
    · cases e'
    · exact e'
  own0 := fun i a e => ⟨if_pos ⟨i, e⟩, (ok.own0 i a e).2⟩
  inj := ok.inj
  osl := ok.osl
  bad0 := fun a h => by
    obtain ⟨u, e, nt⟩ := ok.ofN' (.inl h)
    refine ⟨u, ?_, nt⟩
    show (if ∃ i, W.own i = some a then none else H a) = some u
    rw [if_neg, e]
    rintro ⟨i, q⟩
    obtain ⟨u', e', _⟩ := ok.bad0 a h
    rw [(ok.own0 i a q).1] at e'; cases e'
  slots := fun i sl e => by
    have h := ok.slots i sl e
    cases sl with
    | un => exact h
    | cl d => exact h
    | ow d => exact h
    | sr => exact h
  src := by cases S <;> exact ok.src
open Classical in
theorem rbs_H0 {a : Addr} {u : HO} (ok : StOk P w K W σ H env S) (e : W.H0 a = some u) (n : ¬ W.S a) : (W.rbs H).H0 a = some u := by
  show (if ∃ i, W.own i = some a then none else H a) = some u
  rw [if_neg, ok.base a u e n]
  rintro ⟨i, q⟩
  rw [(ok.own0 i a q).1] at e; cases e
/-- behind a loop: the entry's view again -/
theorem un_rbs (ok : StOk P w K W σ H env S) (s : (W.rbs H).Sim W') (ok' : StOk P w K W' σ' H' env' S') : ∃ W2, W.Sim W2 ∧ W2.own = W'.own ∧ StOk P w K W2 σ' H' env' S' := by
  refine ⟨{ W with own := W'.own }, ⟨rfl, rfl, rfl⟩, rfl, ?_⟩
  have hS : ∀ a, ({ W with own := W'.own } : Wd).S a ↔ W'.S a := fun a => by
    unfold Wd.S
    rw [s.src]
    exact Iff.rfl
  have hN : ∀ a, ({ W with own := W'.own } : Wd).N a ↔ W'.N a := fun a => by
    unfold Wd.N
    rw [hS a, s.bad]
    exact Iff.rfl
  refine ⟨ok'.len, fun a u e n => ok'.base a u ?_ fun z => n ((hS a).mpr z), fun i a e => ⟨?_, fun z => (ok'.own0 i a e).2 ((hS a).mp z)⟩, ok'.inj, ok'.osl, ok.bad0, fun i sl e => ?_, ?_⟩
  · rw [s.h0]; exact rbs_H0 ok e n
  · have h0 := (ok'.own0 i a e).1
    rw [s.h0] at h0
    cases q : W.H0 a with
    | none => rfl
    | some u =>
      by_cases z : W.S a
      · exact absurd ((hS a).mp z) (ok'.own0 i a e).2
      · rw [rbs_H0 ok q z] at h0; cases h0
  · have h := ok'.slots i sl e
    cases sl with
    | un => exact h
    | cl d => obtain ⟨v, e1, h⟩ := h; exact ⟨v, e1, h.mono fun a z => (hN a).mp z⟩
    | ow d =>
      obtain ⟨a, e1, e2, h⟩ := h
      exact ⟨a, e1, e2, h.imp (fun b u n q => ⟨fun z => n ((hN b).mp z), q⟩) fun _ q => q⟩
    | sr =>
      obtain ⟨a, c, e1, e2⟩ := h
      exact ⟨a, c, by rw [← e1]; exact s.src.symm, e2⟩
  · cases S' with
    | none => exact (show W.src = none by rw [← (show W'.src = none from ok'.src)]; exact s.src.symm)
    | some s0 =>
      obtain ⟨a, c, e1, r⟩ := ok'.src
      exact ⟨a, c, by rw [← e1]; exact s.src.symm, r⟩
open Classical in
/-- what was clean at the loop's start is clean in it -/
theorem in_loop {a : Addr} {u : HO} (ok : StOk P w K W σ Hb env S) (s : (W.rbs Hb).Sim W') (ok' : StOk P w K W' σ' H' env' S') (n : ¬ W.N a) (e : Hb a = some u) : ¬ W'.N a ∧ H' a = some u := by
  have h0 : W'.H0 a = some u := by
    rw [s.h0]
    show (if ∃ i, W.own i = some a then none else Hb a) = some u
    rw [if_neg (fun z => n (.inr (.inl z))), e]
  have nS : ¬ W'.S a := fun z => n (SN (s.S.mp z))
  refine ⟨fun z => ?_, ok'.base a u h0 nS⟩
  rcases z with z | ⟨i, z⟩ | z
  · rw [s.bad] at z; exact n (.inl z)
  · rw [(ok'.own0 i a z).1] at h0; cases h0
  · exact nS z
end
theorem out_unrbs {P : Program} {w : World} {K : PySem.W.Frag} {W : Wd} {σ : L2.St} {H : Hp} {env : En} {S : SS} {D : Ends} {o : Out} (ok : StOk P w K W σ H env S) (h : OutK P w K W D o) : OutK P w K (W.rbs H) D o := by
  cases o with
  | nx e s => exact fun W' σ' H' sm ok' => let ⟨W2, s2, _, ok2⟩ := un_rbs ok sm ok'; h W2 σ' H' s2 ok2
  | bk e s => exact fun W' σ' H' sm ok' => let ⟨W2, s2, _, ok2⟩ := un_rbs ok sm ok'; h W2 σ' H' s2 ok2
  | ct e s => exact fun W' σ' H' sm ok' => let ⟨W2, s2, _, ok2⟩ := un_rbs ok sm ok'; h W2 σ' H' s2 ok2
  | rt d t s =>
    intro v H' b s' q
    refine h v H' (fun a u e n => b a u (rbs_H0 ok e n) n) ?_ ?_
    · cases s <;> exact s'
    · cases t with
      | cl => exact q
      | fr =>
        obtain ⟨a, e, n, ns, ob⟩ := q
        refine ⟨a, e, ?_, ns, ob⟩
        cases q : W.H0 a with
        | none => rfl
        | some u => rw [rbs_H0 ok q ns] at n; cases n
      | tp i => exact q
      | sr => exact q
section
variable {X : Cx} {tg iter : Expr} {body : List Stmt} {it : ID} {g : Tg} {mb : SD} {pos : Pos}
theorem es_for (hp : PassesOwn (model X.prog X.w) X.A X.env X.xe) (hc : X.calm = true) (hi : EI X tg iter it) (hg : EG X tg g) (hb : EL X body mb) (hs : ∀ x, foldedSetIterable iter X.env x = pure x := by intro _; rfl) :
    ES X (.For tg iter body [] pos) (sFor it g mb) := ps_wk (ps_for hp hc hi hg hb hs) fun D σ H ⟨W, env, S, ok, o, e, h⟩ => by
  obtain ⟨⟨ds, S1⟩, e1, e⟩ := Option.bind_eq_some_iff.mp e
  dsimp only at e
  refine ⟨W, env, S, ok, ds, S1, e1, fun J Hb kb sb wk => ?_⟩
  have okb : StOk X.prog X.w X.K W σ Hb env S1 := ok.grow kb sb
  have hR : OutK X.prog X.w X.K (W.rbs Hb) D o := out_unrbs okb h
  refine ⟨fun i m σ' H' => m = ds.length - i ∧ i ≤ ds.length ∧ ∃ W' env' S', (W.rbs Hb).Sim W' ∧ StOk X.prog X.w X.K W' σ' H' env' S' ∧ loopF g mb (ds.drop i) env' S' = some o,
    ⟨ds.length, rfl, Nat.zero_le _, W.rbs Hb, env, S1, Wd.Sim.refl _, rbs_ok okb, e⟩, ?_⟩
  rintro i m σ' H' ⟨rfl, hi, W', env', S', sm, ok', e'⟩
  have kH : Kp W.N Hb H' := fun a u n q => (in_loop okb sm ok' n q).2
  by_cases hl : i < ds.length
  · refine .inr ⟨wk.go i H' kH hl, ?_⟩
    rw [List.drop_eq_getElem_cons hl] at e'
    obtain ⟨env1, e2, e'⟩ := Option.bind_eq_some_iff.mp e'
    obtain ⟨o1, e3, e'⟩ := Option.bind_eq_some_iff.mp e'
    refine ⟨fun σ2 H2 => ∃ W2 env2 S2, (W.rbs Hb).Sim W2 ∧ StOk X.prog X.w X.K W2 σ2 H2 env2 S2 ∧ loopF g mb (ds.drop (i + 1)) env2 S2 = some o,
      fun σ2 H2 z => ⟨ds.length - (i + 1), by omega, rfl, hl, z⟩, fun x H1 y => ?_⟩
    have yl := wk.yl i H' x H1 ds[i] kH (List.getElem?_eq_getElem hl) y
    have go : ∀ {W1 : Wd} {σ1 : L2.St}, (W.rbs Hb).Sim W1 → StOk X.prog X.w X.K W1 σ1 H1 env1 S' → tEvS X.prog X.w X.K mb { D with nx := fun σ2 H2 => ∃ W2 env2 S2, (W.rbs Hb).Sim W2 ∧ StOk X.prog X.w X.K W2 σ2 H2 env2 S2 ∧ loopF g mb (ds.drop (i + 1)) env2 S2 = some o, ct := fun σ2 H2 => ∃ W2 env2 S2, (W.rbs Hb).Sim W2 ∧ StOk X.prog X.w X.K W2 σ2 H2 env2 S2 ∧ loopF g mb (ds.drop (i + 1)) env2 S2 = some o, bk := D.nx } σ1 H1 := by
      intro W1 σ1 s1 ok1
      refine tEvS.use ok1 e3 ?_
      cases o1 with
      | nx e s => exact fun W2 σ2 H2 s2 ok2 => ⟨W2, e, s, s1.trans s2, ok2, e'⟩
      | ct e s => exact fun W2 σ2 H2 s2 ok2 => ⟨W2, e, s, s1.trans s2, ok2, e'⟩
      | bk e s =>
        cases e'
        exact fun W2 σ2 H2 s2 ok2 => hR W2 σ2 H2 (s1.trans s2) ok2
      | rt d t s =>
        cases e'
        exact OutK.sim s1 hR
    rcases yl with ⟨rfl, hd⟩ | ⟨T, vs, es, ed, rfl, hT, rfl, td⟩
    · have hd' : Den X.prog X.w X.K W'.N H1 x ds[i] := hd.imp fun a u n q => in_loop okb sm ok' n q
      exact Tg.run g.sl g _ ok' hd' e2 (fun _ z => z) fun W1 σ1 s1 _ ok1 _ => go (sm.trans s1) ok1
    · have okT : StOk X.prog X.w X.K W' σ' (upd H' T (.tup vs)) env' S' := ok'.grow (kp_new hT) (src_new ok'.src hT)
      have hd' : Den X.prog X.w X.K W'.N (upd H' T (.tup vs)) (.ref T) ds[i] := by
        rw [ed]
        refine Den.tup (.inl ⟨upd_same, ok'.fresh hT⟩) (td.imp fun a u n q => ?_)
        obtain ⟨p1, p2⟩ := in_loop okb sm ok' n q
        exact ⟨p1, (upd_ne (ne_of_none p2 hT)).trans p2⟩
      exact Tg.run g.sl g _ okT hd' e2 (fun _ z => z) fun W1 σ1 s1 _ ok1 _ => go (sm.trans s1) ok1
  · have ei : i = ds.length := by omega
    subst ei
    refine .inl ⟨wk.stop _ H' kH (Nat.le_refl _), ?_⟩
    rw [List.drop_length] at e'
    cases e'
    exact hR W' σ' H' sm ok'
end

/-! ### while: a number of turns that is enough -/
def loopW (c : BD) (body : SD) : Nat → SD
  | 0 => fun _ _ => none
  | n + 1 => fun env S => (c env S).bind fun r => if r.1 then (body env r.2).bind fun o => (match o with
    | .nx e s => loopW c body n e s
    | .ct e s => loopW c body n e s
    | .bk e s => some (.nx e s)
    | .rt d t s => some (.rt d t s)) else some (.nx env r.2)
/-- the most turns are told by fuel, a number that hangs on what stands ahead of the loop -/
def sWh (fuel : En → Nat) (c : BD) (body : SD) : SD := fun env S => loopW c body (fuel env) env S
section
variable {X : Cx} {c : Expr} {body : List Stmt} {mc : BD} {mb : SD} {pos : Pos} {fuel : En → Nat}
theorem es_wh (hp : PassesOwn (model X.prog X.w) X.A X.env X.xe) (hc : EB X c mc) (hb : EL X body mb) : ES X (.While c body [] pos) (sWh fuel mc mb) := ps_wk (ps_while hp hc hb) fun D σ H ⟨W, env, S, ok, o, e, h⟩ => by
  refine ⟨fun m σ' H' => ∃ W' env' S', W.Sim W' ∧ StOk X.prog X.w X.K W' σ' H' env' S' ∧ loopW mc mb m env' S' = some o, ⟨fuel env, W, env, S, Wd.Sim.refl W, ok, e⟩, ?_⟩
  rintro m σ' H' ⟨W', env', S', sm, ok', e'⟩
  cases m with
  | zero => cases e'
  | succ n =>
    obtain ⟨⟨b, S1⟩, e1, e'⟩ := Option.bind_eq_some_iff.mp e'
    dsimp only at e'
    refine tEvB.use ok' e1 fun H1 ok1 k1 s1 => ?_
    split at e'
    · rename_i hb
      rw [if_pos hb]
      obtain ⟨o1, e3, e'⟩ := Option.bind_eq_some_iff.mp e'
      refine ⟨fun σ2 H2 => ∃ W2 env2 S2, W.Sim W2 ∧ StOk X.prog X.w X.K W2 σ2 H2 env2 S2 ∧ loopW mc mb n env2 S2 = some o, fun σ2 H2 z => ⟨n, Nat.lt_succ_self n, z⟩, ?_⟩
      refine tEvS.use ok1 e3 ?_
      cases o1 with
      | nx e s => exact fun W2 σ2 H2 s2 ok2 => ⟨W2, e, s, sm.trans s2, ok2, e'⟩
      | ct e s => exact fun W2 σ2 H2 s2 ok2 => ⟨W2, e, s, sm.trans s2, ok2, e'⟩
      | bk e s =>
        cases e'
        exact fun W2 σ2 H2 s2 ok2 => h W2 σ2 H2 (sm.trans s2) ok2
      | rt d t s =>
        cases e'
        exact OutK.sim sm h
    · rename_i hb
      rw [if_neg hb]
      cases e'
      exact h W' σ' H1 sm ok1
end
end Ev

namespace Ev
open PySem L2

/-! ### list comprehensions -/
def wipeE (env : En) : List Nat → En
  | [] => env
  | v :: vs => (wipeE env vs).set v .un
def notOw (env : En) (vs : List Nat) : Bool := vs.all fun v => match env[v]? with
  | some (.ow _) => false
  | _ => true
def lcLoop (g : Tg) (tt : BD) (te : ED) (env : En) : List PyData → List PyData → SS → Option (List PyData × SS)
  | [], acc, S => some (acc, S)
  | d :: r, acc, S => (g.set d env).bind fun env1 => (tt env1 S).bind fun b => if b.1 then (te env1 b.2).bind fun x => if x.2.1.cln && decide (acc.length < 16777216) then lcLoop g tt te env r (acc ++ [x.1]) x.2.2 else none
    else lcLoop g tt te env r acc b.2
def eLc (vs : List Nat) (it : ID) (g : Tg) (tt : BD) (te : ED) : ED := fun env S => (it env S).bind fun r => if notOw env vs then (lcLoop g tt te (wipeE env vs) r.1 [] r.2).map fun q => (.list q.1, .fr, q.2) else none
def bYes : BD := fun _ S => some (true, S)
section
variable {P : Program} {w : World} {K : PySem.W.Frag} {W W' : Wd} {σ σ' : L2.St} {H H' Hb : Hp} {env env' : En} {S S' : SS} {x : V} {d : PyData}
theorem wipeE_len (env : En) : ∀ vs : List Nat, (wipeE env vs).length = env.length
  | [] => rfl
  | v :: vs => by unfold wipeE; rw [List.length_set, wipeE_len env vs]
theorem wipe_no {σ : L2.St} {i : Nat} : ∀ {vs : List Nat}, i ∉ vs → (wipe σ vs)[i]? = σ[i]?
  | [], _ => rfl
  | v :: vs, h => by
    unfold wipe
    rw [List.getElem?_set_ne (fun z => h (by rw [z]; exact List.mem_cons_self)), wipe_no fun z => h (List.mem_cons_of_mem _ z)]
theorem wipeE_no {env : En} {i : Nat} : ∀ {vs : List Nat}, i ∉ vs → (wipeE env vs)[i]? = env[i]?
  | [], _ => rfl
  | v :: vs, h => by
    unfold wipeE
    rw [List.getElem?_set_ne (fun z => h (by rw [z]; exact List.mem_cons_self)), wipeE_no fun z => h (List.mem_cons_of_mem _ z)]
theorem wipeE_at {env : En} {i : Nat} {sl : Sl} : ∀ {vs : List Nat}, i ∈ vs → (wipeE env vs)[i]? = some sl → sl = .un
  | [], h, _ => nomatch h
  | v :: vs, h, e => by
    unfold wipeE at e
    by_cases hv : v = i
    · subst hv
      by_cases hl : v < (wipeE env vs).length
      · rw [List.getElem?_set_self hl] at e; cases e; rfl
      · rw [List.getElem?_eq_none (by rw [List.length_set]; omega)] at e; cases e
    · rw [List.getElem?_set_ne hv] at e
      refine wipeE_at (vs := vs) ?_ e
      rcases List.mem_cons.mp h with h | h
      · exact absurd h.symm hv
      · exact h
theorem StOk.wipe (ok : StOk P w K W σ H env S) {vs : List Nat} (n : notOw env vs = true) : StOk P w K W (wipe σ vs) H (wipeE env vs) S where
  len := by rw [wipe_length, wipeE_len]; exact ok.len
  base := ok.base
  own0 := ok.own0
  inj := ok.inj
  osl := fun i a e => by
    obtain ⟨d, q⟩ := ok.osl i a e
    refine ⟨d, ?_⟩
    rw [wipeE_no]
    · exact q
    · intro hi
      have := List.all_eq_true.mp n i hi
      rw [q] at this; cases this
  bad0 := ok.bad0
  slots := fun i sl e => by
    by_cases hi : i ∈ vs
    · rw [wipeE_at hi e]; exact trivial
    · rw [wipeE_no hi] at e
      have h := ok.slots i sl e
      cases sl with
      | un => exact h
      | cl d => obtain ⟨v, e1, h⟩ := h; exact ⟨v, by rw [wipe_no hi]; exact e1, h⟩
      | ow d => obtain ⟨a, e1, e2, h⟩ := h; exact ⟨a, e1, by rw [wipe_no hi]; exact e2, h⟩
      | sr => obtain ⟨a, c, e1, e2⟩ := h; exact ⟨a, c, e1, by rw [wipe_no hi]; exact e2⟩
  src := ok.src
theorem notOw_own (ok : StOk P w K W σ H env S) {vs : List Nat} (n : notOw env vs = true) {i : Nat} {a : Addr} (e : W.own i = some a) : i ∉ vs := fun hi => by
  obtain ⟨d, q⟩ := ok.osl i a e
  have := List.all_eq_true.mp n i hi
  rw [q] at this; cases this
theorem src_upd {D : Addr} {o : HO} (s : SrcOk W H S) (h : ¬ W.S D) : SrcOk W (upd H D o) S := by
  cases S with
  | none => exact s
  | some s0 =>
    obtain ⟨x, c, e1, e2, e3, e4⟩ := s
    have n1 : x ≠ D := fun z => h ⟨(x, c), e1, .inl z.symm⟩
    have n2 : c ≠ D := fun z => h ⟨(x, c), e1, .inr z.symm⟩
    exact ⟨x, c, e1, e2, by rw [upd_ne n1]; exact e3, by rw [upd_ne n2]; exact e4⟩
/-- the list that is being made, at a turn: what is in it, and the state -/
structure LcInv (P : Program) (w : World) (K : PySem.W.Frag) (W : Wd) (Hb : Hp) (D : Addr) (acc : List PyData) (S : SS) (H : Hp) : Prop where
  ls : ∃ avs, H D = some (.lst avs) ∧ Dens P w K (fun b => W.N b ∨ b = D) H avs acc
  kp : Kp W.S Hb H
  src : SrcOk W H S
theorem LcInv.st (ok : StOk P w K W σ Hb env S') (hD : Hb D = none) {acc : List PyData} (i : LcInv P w K W Hb D acc S H) : ∃ u, H D = some u ∧ StOk P w K (W.gd D u) σ H env S := by
  obtain ⟨avs, e, _⟩ := i.ls
  exact ⟨_, e, ok.guard i.kp i.src hD e fun _ z => nomatch z⟩
/-- one thing more -/
theorem LcInv.push (ok : StOk P w K W σ Hb env S') (hD : Hb D = none) {acc : List PyData} {S1 : SS} (i : LcInv P w K W Hb D acc S H) (k : Kp W.S H H') (s : SrcOk W H' S1) {y : V} {d : PyData}
    (hd : Den P w K (fun b => W.N b ∨ b = D) H' y d) : ∃ avs, H' D = some (.lst avs) ∧ avs.length = acc.length ∧ LcInv P w K W Hb D (acc ++ [d]) S1 (upd H' D (.lst (avs ++ [y]))) := by
  obtain ⟨avs, e, t⟩ := i.ls
  have nS : ¬ W.S D := fun z => ok.fresh hD (SN z)
  refine ⟨avs, k D _ nS e, t.length, ⟨avs ++ [y], upd_same, ?_⟩, fun a u n q => ?_, src_upd s nS⟩
  · have kk : Kp (fun b => W.N b ∨ b = D) H' (upd H' D (.lst (avs ++ [y]))) := fun a u n q => (upd_ne fun z : a = D => n (.inr z)).trans q
    exact ((t.keep fun a u n q => k a u (fun z => n (.inl (SN z))) q).snoc hd).keep kk
  · exact (upd_ne (ne_of_none q hD)).trans (k a u n (i.kp a u n q))
theorem LcInv.more (i : LcInv P w K W Hb D acc S H) {S1 : SS} (k : Kp W.S H H') (s : SrcOk W H' S1) (nS : ¬ W.S D) : LcInv P w K W Hb D acc S1 H' := by
  obtain ⟨avs, e, t⟩ := i.ls
  exact ⟨⟨avs, k D _ nS e, t.keep fun a u n q => k a u (fun z => n (.inl (SN z))) q⟩, i.kp.trans k, s⟩
end
section
variable {P : Program} {w : World} {K : PySem.W.Frag} {it : ID} {g : Tg} {tt : BD} {te : ED} {vs : List Nat}
/-- a turn: its thing is stored, all before stays -/
theorem lc_store {W : Wd} {σ : L2.St} {Hb H : Hp} {env env1 : En} {S S' : SS} {D : Addr} {acc : List PyData} {x : V} {H1 : Hp} {d : PyData} {R : L2.St → Hp → Prop} (ok : StOk P w K W σ Hb env S') (hD : Hb D = none) (hn : notOw env vs = true) (hv : ∀ i ∈ g.sl, i ∈ vs)
    (i : LcInv P w K W Hb D acc S H) (y : Yl P w K W.N Hb H x H1 d) (e : g.set d (wipeE env vs) = some env1)
    (h : ∀ W1 σ1 u, H D = some u → (W.gd D u).Sim W1 → (∀ a, W1.N a ↔ (W.N a ∨ a = D)) → StOk P w K W1 σ1 H1 env1 S → wipe σ1 vs = wipe σ vs → Kp W.S H H1 → R σ1 H1) : Tg.g K g x (wipe σ vs) H1 R := by
  obtain ⟨u, eu, ok1⟩ := i.st ok hD
  have ok2 := ok1.wipe hn
  have tr : ∀ a z, ¬ W.N a → Hb a = some z → ¬ (W.gd D u).N a ∧ H a = some z := fun a z n q => ⟨fun y => (gd_N y).elim n (ne_of_none q hD), kpN i.kp a z n q⟩
  have key : ∀ {Hx : Hp} {v : V}, StOk P w K (W.gd D u) (wipe σ vs) Hx (wipeE env vs) S → Kp W.S H Hx → Den P w K (W.gd D u).N Hx v d → (∀ σ1, (∀ W1, (W.gd D u).Sim W1 → (∀ a, W1.N a ↔ (W.N a ∨ a = D)) → StOk P w K W1 σ1 Hx env1 S → wipe σ1 vs = wipe σ vs → R σ1 Hx)) → Tg.g K g v (wipe σ vs) Hx R := by
    intro Hx v okx kx hd hh
    refine Tg.run vs g d okx hd e hv fun W1 σ1 s1 n1 okw w1 => hh σ1 W1 s1 (fun a => ⟨fun z => gd_N (n1.1 a z), fun z => ?_⟩) okw (w1.trans ?_)
    · rcases gd_of (u := u) z with z | ⟨j, z⟩ | z
      · exact .inl (by rw [s1.bad]; exact z)
      · exact .inr (.inl ⟨j, n1.2 j a (notOw_own ok hn z) z⟩)
      · exact .inr (.inr (s1.S.mpr z))
    · have ww : ∀ (l : List Nat), (∀ v ∈ l, v ∈ vs) → wipe (wipe σ l) vs = wipe σ vs := by
        intro l
        induction l with
        | nil => intro _; rfl
        | cons v l ih =>
          intro hl
          show wipe ((wipe σ l).set v none) vs = wipe σ vs
          rw [wipe_set (hl v List.mem_cons_self)]
          exact ih fun v' h' => hl v' (List.mem_cons_of_mem _ h')
      exact ww vs fun _ z => z
  rcases y with ⟨rfl, hd⟩ | ⟨T, us, es, rfl, rfl, hT, rfl, td⟩
  · exact key ok2 Kp.refl (hd.imp tr) fun σ1 W1 s1 n1 okw w1 => h W1 σ1 u eu s1 n1 okw w1 Kp.refl
  · have okT := ok2.grow (kp_new (o := .tup us) hT) (src_new ok2.src hT)
    refine key okT (kp_new hT) (Den.tup (.inl ⟨upd_same, ok2.fresh hT⟩) (td.imp fun a z n q => ?_)) fun σ1 W1 s1 n1 okw w1 => h W1 σ1 u eu s1 n1 okw w1 (kp_new hT)
    obtain ⟨p1, p2⟩ := tr a z n q
    exact ⟨p1, (upd_ne (ne_of_none p2 hT)).trans p2⟩
theorem lc_read (hv : ∀ i ∈ g.sl, i ∈ vs) {σ : L2.St} {H : Hp} {Q : VK} (h : tEv P w K (eLc vs it g tt te) σ H Q) : tLc (tEvI P w K Wd.S it) (g.g K) (tEvB P w K tt) (tEv P w K te) vs σ H Q := by
  obtain ⟨W, env, S, ok, d, t, S', e, h⟩ := h
  obtain ⟨⟨ds, S1⟩, e1, e⟩ := Option.bind_eq_some_iff.mp e
  dsimp only at e
  split at e
  case isFalse => cases e
  rename_i hn
  obtain ⟨⟨r, S2⟩, e2, e⟩ := Option.map_eq_some_iff.mp e
  cases e
  refine ⟨W, env, S, ok, ds, S1, e1, fun J Hb kb sb wk D hD => ?_⟩
  have okb := ok.grow kb sb
  have nS : ¬ W.S D := fun z => okb.fresh hD (SN z)
  refine ⟨fun i m H => m = ds.length - i ∧ i ≤ ds.length ∧ ∃ acc Sx, LcInv P w K W Hb D acc Sx H ∧ lcLoop g tt te (wipeE env vs) (ds.drop i) acc Sx = some (r, S2),
    ⟨ds.length, rfl, Nat.zero_le _, [], S1, ⟨⟨[], upd_same, .nil⟩, kp_new hD, src_new sb hD⟩, e2⟩, ?_⟩
  rintro i m Hi ⟨rfl, hi, acc, Sx, inv, e3⟩
  by_cases hl : i < ds.length
  · refine .inr ⟨wk.go i Hi inv.kp hl, ?_⟩
    rw [List.drop_eq_getElem_cons hl] at e3
    obtain ⟨env1, e4, e3⟩ := Option.bind_eq_some_iff.mp e3
    obtain ⟨⟨b, S3⟩, e5, e3⟩ := Option.bind_eq_some_iff.mp e3
    dsimp only at e3
    refine ⟨fun H2 => ∃ acc Sx, LcInv P w K W Hb D acc Sx H2 ∧ lcLoop g tt te (wipeE env vs) (ds.drop (i + 1)) acc Sx = some (r, S2),
      fun H2 z => ⟨ds.length - (i + 1), by omega, rfl, hl, z⟩, fun x H1 y => ?_⟩
    refine lc_store okb hD hn hv inv (wk.yl i Hi x H1 _ inv.kp (List.getElem?_eq_getElem hl) y) e4 fun W1 σ1 u eu s1 n1 ok1 w1 k1 => ⟨w1, ?_⟩
    have sS : ∀ a, W1.S a ↔ W.S a := fun a => s1.S
    have src1 : ∀ {Hx : Hp} {Sy : SS}, SrcOk W1 Hx Sy → SrcOk W Hx Sy := fun {Hx Sy} z => by
      cases Sy with
      | none => exact s1.src.symm.trans z
      | some s0 => obtain ⟨a, c, q, rr⟩ := z; exact ⟨a, c, s1.src.symm.trans q, rr⟩
    refine tEvB.use ok1 e5 fun H3 ok3 k3 sr3 => ?_
    have k3' : Kp W.S H1 H3 := fun a u n q => k3 a u (fun z => n ((sS a).mp z)) q
    split at e3
    · rename_i hb
      rw [if_pos hb]
      obtain ⟨⟨dy, ty, S4⟩, e6, e3⟩ := Option.bind_eq_some_iff.mp e3
      dsimp only at e3
      split at e3
      case isFalse => cases e3
      rename_i hz
      rw [Bool.and_eq_true] at hz
      refine tEv.use ok3 e6 fun v H4 ok4 k4 sr4 hv4 => ?_
      have k4' : Kp W.S H3 H4 := fun a u n q => k4 a u (fun z => n ((sS a).mp z)) q
      have hd4 : Den P w K (fun b => W.N b ∨ b = D) H4 v dy := (hv4.clean ok3 hz.1).mono fun a z => (n1 a).mpr z
      obtain ⟨avs, ea, el, inv'⟩ := inv.push okb hD ((k1.trans k3').trans k4') (src1 sr4) hd4
      exact ⟨avs, ea, by rw [sizeLine_eq, el]; exact of_decide_eq_true hz.2, _, S4, inv', e3⟩
    · rename_i hb
      rw [if_neg hb]
      exact ⟨acc, S3, inv.more (k1.trans k3') (src1 sr3) nS, e3⟩
  · have ei : i = ds.length := by omega
    subst ei
    refine .inl ⟨wk.stop _ Hi inv.kp (Nat.le_refl _), ?_⟩
    rw [List.drop_length] at e3
    cases e3
    obtain ⟨avs, ea, ta⟩ := inv.ls
    exact h _ Hi (kb.trans inv.kp) inv.src ⟨D, rfl, ok.back kb sb hD, .lst ea ta⟩
end
section
variable {X : Cx}
abbrev ETs (X : Cx) (ifs : List Expr) (m : BD) : Prop := PTs X ifs (tEvB X.prog X.w X.K m)
theorem pts_wk {ifs : List Expr} {t t' : TT} (h : PTs X ifs t) (hw : ∀ σ H Q, t' σ H Q → t σ H Q) : PTs X ifs t' := ⟨fun pins s σ H Q I q => h.run pins s σ H Q I (hw σ H Q q)⟩
theorem ets_nil : ETs X [] bYes := pts_wk pts_nil fun σ H Q ⟨W, env, S, ok, b, S', e, h⟩ => by cases e; exact h H Kp.refl ok.src
theorem ets_one {c : Expr} {m : BD} (h : EB X c m) : ETs X [c] m := pts_one h
/-- [elt for tg in iter if ..] -/
theorem ee_lc {elt tg iter : Expr} {ifs : List Expr} {scope : Scope} {own : List (Str × Nat)} {pos : Pos} {it : ID} {g : Tg} {tt : BD} {te : ED} (ok : BlkOk X.N X.env.scope scope own) (hi : EIc X tg iter it)
    (hg : ∀ (s : Shared) (H : Hp) (C : Addr) (cl : List (Str × Addr)) (fp : List Addr), EG (X.blk s H scope (compEnvC scope cl C X.env) fp) tg g) (ht : ∀ (s : Shared) (H : Hp) (C : Addr) (cl : List (Str × Addr)) (fp : List Addr), ETs (X.blk s H scope (compEnvC scope cl C X.env) fp) ifs tt)
    (he : ∀ (s : Shared) (H : Hp) (C : Addr) (cl : List (Str × Addr)) (fp : List Addr), EE (X.blk s H scope (compEnvC scope cl C X.env) fp) elt te) (hN : X.N.Nodup) (hc : X.calm = true) (hv : ∀ i ∈ g.sl, i ∈ own.map (·.2) := by decide) (hs : ∀ x, foldedSetIterable iter X.env x = pure x := by intro _; rfl) :
    EE X (.ListComp elt [⟨tg, iter, ifs, 0⟩] scope pos) (eLc (own.map (·.2)) it g tt te) := pe_wk (pe_lc hc hN hi ok hg ht he hs) fun _ _ _ h => lc_read hv h
/-- name = [..] on one line -/
theorem es_setLc {i : Nat} {y : Str} {py : Pos} {elt tg iter : Expr} {ifs : List Expr} {scope : Scope} {own : List (Str × Nat)} {pos spos : Pos} {it : ID} {g : Tg} {tt : BD} {te : ED} (ok : BlkOk X.N X.env.scope scope own) (hi : EIc X tg iter it)
    (hg : ∀ (s : Shared) (H : Hp) (C : Addr) (cl : List (Str × Addr)) (fp : List Addr), EG (X.blk s H scope (compEnvC scope cl C X.env) fp) tg g) (ht : ∀ (s : Shared) (H : Hp) (C : Addr) (cl : List (Str × Addr)) (fp : List Addr), ETs (X.blk s H scope (compEnvC scope cl C X.env) fp) ifs tt)
    (he : ∀ (s : Shared) (H : Hp) (C : Addr) (cl : List (Str × Addr)) (fp : List Addr), EE (X.blk s H scope (compEnvC scope cl C X.env) fp) elt te)
    (hsw : swapsWith (.ListComp elt [⟨tg, iter, ifs, 0⟩] scope pos) (some (.Name y py)) spos.line X.env = pure true) (hyl : X.env.scope.names.lookup y = some .local) (hN : X.N.Nodup) (hy : X.N[i]? = some y) (hc : X.calm = true)
    (hv : ∀ i ∈ g.sl, i ∈ own.map (·.2) := by decide) (hs : ∀ x, foldedSetIterable iter X.env x = pure x := by intro _; rfl) :
    ES X (.Assign [.Name y py] (.ListComp elt [⟨tg, iter, ifs, 0⟩] scope pos) spos) (sSet i (eLc (own.map (·.2)) it g tt te)) :=
  ps_wk (ps_setLc hc hN hy hyl hsw hi ok hg ht he hs) fun D σ H h => by
    have q := set_read h
    exact lc_read hv q
end
end Ev

namespace Ev
open PySem L2

/-! ### defs: what they promise, nothing of a repr being under way -/
structure FnG (P : Program) (w : World) (K : PySem.W.Frag) (mg : Str → Option Value) (base : Heap) (k : Nat) (f : Addr) (fd : FuncData) (ps : List Str) (sp : Sp) : Prop where
  len : ∀ vs H Q E, sp vs H Q E → vs.length = ps.length
  run : ∀ (A : Around) (outer : List Env) (s : Shared) (H : Hp) (args : Args) (us : List Value) (vs : List V) (Q : VK), A.guards = some [] → Room k A → Env0 P w K mg base A outer s H →
    BindsTo s fd args (ps.zip us) → Vals vs us → sp vs H Q E0 → codeAny (model P w) A (.call (.ref f) args) (CR CX0 outer P w H s Q E0) s
theorem FnG.mono {P : Program} {w : World} {K : PySem.W.Frag} {mg : Str → Option Value} {base : Heap} {j k : Nat} {f : Addr} {fd : FuncData} {ps : List Str} {sp : Sp} (F : FnG P w K mg base j f fd ps sp) (h : j ≤ k) : FnG P w K mg base k f fd ps sp where
  len := F.len
  run := fun A outer s H args us vs Q g hr => F.run A outer s H args us vs Q g (hr.mono h)

/-- a def, as data -/
abbrev FD := List (Option PyData) → SS → Option (PyData × Tag × SS)
def aSl : Option PyData → Sl
  | some d => .cl d
  | none => .sr
/-- n slots -/
def runF (n : Nat) (body : SD) : FD := fun as S => (body (as.map aSl ++ List.replicate (n - as.length) .un) S).bind fun o => match o with
  | .rt d t s => some (d, t, s)
  | .nx _ s => some (.none, .cl, s)
  | _ => none
section
variable (P : Program) (w : World) (K : PySem.W.Frag)
def ArgOk (W : Wd) (H : Hp) (v : V) : Option PyData → Prop
  | some d => Den P w K W.N H v d
  | none => ∃ a c, W.src = some (a, c) ∧ v = .ref a
inductive ArgsOk (W : Wd) (H : Hp) : List V → List (Option PyData) → Prop
  | nil : ArgsOk W H [] []
  | cons {v : V} {vs : List V} {a : Option PyData} {as : List (Option PyData)} : ArgOk P w K W H v a → ArgsOk W H vs as → ArgsOk W H (v :: vs) (a :: as)
/-- a world at a def's entry -/
structure En0 (W : Wd) (H : Hp) (S : SS) : Prop where
  own : ∀ i, W.own i = none
  h0 : W.H0 = H
  bad : ∀ a, W.bad a → ∃ u, H a = some u ∧ ∀ vs, u ≠ .tup vs
  src : SrcOk W H S
def spD (n : Nat) (F : FD) : Sp := fun vs H Q _ => vs.length = n ∧ ∃ (W : Wd) (S : SS) (as : List (Option PyData)) (d : PyData) (t : Tag) (S' : SS), En0 W H S ∧ ArgsOk P w K W H vs as ∧ F as S = some (d, t, S') ∧
  ∀ v H', Kp W.S H H' → SrcOk W H' S' → RtOk P w K W H' v d t → Q v H'
end
section
variable {P : Program} {w : World} {K : PySem.W.Frag} {W : Wd} {σ : L2.St} {H H' : Hp} {env : En} {S S' : SS}
theorem ArgsOk.length : ∀ {vs : List V} {as : List (Option PyData)}, ArgsOk P w K W H vs as → vs.length = as.length
  | _, _, .nil => rfl
  | _, _, .cons _ t => by rw [List.length_cons, List.length_cons, ArgsOk.length t]
theorem ArgsOk.get : ∀ {vs : List V} {as : List (Option PyData)} {i : Nat} {a : Option PyData}, ArgsOk P w K W H vs as → as[i]? = some a → ∃ v, vs[i]? = some v ∧ ArgOk P w K W H v a
  | _, _, _, _, .nil, e => by simp at e
  | _, _, 0, _, .cons h _, e => by simp at e; subst e; exact ⟨_, rfl, h⟩
  | _, _, i + 1, a, .cons _ t, e => by
    obtain ⟨v, h1, h2⟩ := ArgsOk.get (i := i) (a := a) t (by simpa using e)
    exact ⟨v, by simpa using h1, h2⟩
theorem start_ok (e0 : En0 W H S) {vs : List V} {as : List (Option PyData)} (ha : ArgsOk P w K W H vs as) (N : List Str) (hl : vs.length ≤ N.length) : StOk P w K W (L2.start N vs) H (as.map aSl ++ List.replicate (N.length - as.length) .un) S where
  len := by
    unfold L2.start
    rw [List.length_append, List.length_append, List.length_map, List.length_map, List.length_replicate, List.length_replicate, ha.length]
  base := fun a u e _ => by rw [← e0.h0]; exact e
  own0 := fun i a e => by rw [e0.own i] at e; cases e
  inj := fun i j a e => by rw [e0.own i] at e; cases e
  osl := fun i a e => by rw [e0.own i] at e; cases e
  bad0 := fun a h => by
    obtain ⟨u, e, n⟩ := e0.bad a h
    exact ⟨u, by rw [e0.h0]; exact e, n⟩
  slots := fun i sl e => by
    by_cases hi : i < as.length
    · rw [List.getElem?_append_left (by simpa using hi), List.getElem?_map] at e
      obtain ⟨a, e1, e2⟩ := Option.map_eq_some_iff.mp e
      obtain ⟨v, ev, hv⟩ := ha.get e1
      have es : (L2.start N vs)[i]? = some (some v) := by
        unfold L2.start
        rw [List.getElem?_append_left (by rw [List.length_map, ha.length]; exact hi), List.getElem?_map, ev]
        rfl
      subst e2
      cases a with
      | some d => exact ⟨v, es, hv⟩
      | none =>
        obtain ⟨a, c, h1, h2⟩ := hv
        subst h2
        exact ⟨a, c, h1, es⟩
    · rw [List.getElem?_append_right (by simpa using hi), List.getElem?_replicate] at e
      split at e
      · cases e; exact trivial
      · cases e
  src := e0.src
end

/-! ### a def of the text keeps its promise -/
theorem guards_deeper {A : Around} {env : Env} (h : A.guards = some []) : (A.deeper env).guards = some [] := h
/-- the frame at a def's entry is the layer's own, so its promise comes from its body's reading -/
theorem fnG_of {P : Program} {w : World} {K : PySem.W.Frag} {mg : Str → Option Value} {base : Heap} {k : Nat} {f : Addr} {fd : FuncData} {x qual : Str} {st : Stmt} {N ps : List Str} {sp : Sp}
    (F : Fun K x qual st f fd) (S : FnScope N ps (defScope st)) (len : ∀ vs H Q E, sp vs H Q E → vs.length = ps.length)
    (body : ∀ (cdv : Value) (A : Around) (outer : List Env) (s : Shared) (H : Hp) (vs : List V) (Q : VK), (A.deeper (PyProof.Rows.envOfC qual (defScope st) s.heap.objs.size f cdv)).guards = some [] → Room k (A.deeper (PyProof.Rows.envOfC qual (defScope st) s.heap.objs.size f cdv)) → sp vs H Q E0 →
      ∃ t, PSs (cxOf CX0 P w K mg base N qual (defScope st) f cdv A outer s H E0).nox (defBody st) t ∧ t { nx := fun _ H' => Q .non H', rt := Q } (L2.start N vs) H) : FnG P w K mg base (k + 1) f fd ps sp := by
  obtain ⟨oc, od, kV, doc, pm, an, cdv, ct, osl, efd, lk, hcd⟩ := F.ex
  subst efd
  constructor
  case len => exact len
  case run =>
    intro A outer s H args us vs Q g hr e0 hb r hsp
    have hl := len _ _ _ _ hsp
    have KX : K.In s.heap := e0.mod.kin.keeps fun b o e => (e0.bs b o e).1
    have lim : s.heap.NoLimit := e0.mod.nolimit.keeps fun b o e => (e0.bs b o e).1
    have kinds : ∀ y ∈ ps.zip us, (defScope st).names.lookup y.1 = some .local ∨ ((defScope st).names.lookup y.1 = some .cell ∧ ((cellsFrom (s.heap.objs.size + 1) (defScope st).names []).lookup y.1).isSome = true) := by
      rintro ⟨n, v⟩ hy
      exact (S.par n (List.of_mem_zip hy).1).imp id fun q => ⟨q, PySem.W.cellsFrom_some _ _ _ (.inl q)⟩
    refine codeAny_call_function hr.depth (KX _ _ lk) rfl S.co S.gen rfl (PySem.W.codeRec_of KX hcd) (hb _ _ _ _ ?_)
    refine wpAny_newFunctionEnv_cells S.kind kinds fun env he s1 xx => ?_
    subst he
    refine ⟨lim.keeps xx.toInCall.keep, codeAny_func ?_⟩
    obtain ⟨t, ht, hq⟩ := body cdv A outer s H vs Q (guards_deeper g) (hr.deeper _) hsp
    have I := inv_start (CX := CX0) (P := P) (w := w) (E := E0) S hr.hd e0 hl r xx
    refine wpAny_mono (ht.nox.run [] s1 (L2.start N vs) H _ I hq) (fun fl s' hs => ?_) fun e s' hs => hs
    cases fl with
    | ret u => obtain ⟨v, σ', H', J, rv, q⟩ := hs; exact ⟨v, H', J.os, J.bare, J.base, J.hok, rv, q⟩
    | next => obtain ⟨σ', H', J, q⟩ := hs; exact ⟨V.non, H', J.os, J.bare, J.base, J.hok, rfl, q⟩
    | brk => obtain ⟨_, _, _, q⟩ := hs; exact q.elim
    | cont => obtain ⟨_, _, _, q⟩ := hs; exact q.elim
/-- .. told as data -/
theorem fnD_of {P : Program} {w : World} {K : PySem.W.Frag} {mg : Str → Option Value} {base : Heap} {k : Nat} {f : Addr} {fd : FuncData} {x qual : Str} {st : Stmt} {N ps : List Str} {m : SD}
    (F : Fun K x qual st f fd) (S : FnScope N ps (defScope st))
    (body : ∀ (cdv : Value) (A : Around) (outer : List Env) (s : Shared) (H : Hp), (A.deeper (PyProof.Rows.envOfC qual (defScope st) s.heap.objs.size f cdv)).guards = some [] → Room k (A.deeper (PyProof.Rows.envOfC qual (defScope st) s.heap.objs.size f cdv)) →
      EL (cxOf CX0 P w K mg base N qual (defScope st) f cdv A outer s H E0).nox (defBody st) m) : FnG P w K mg base (k + 1) f fd ps (spD P w K ps.length (runF N.length m)) := by
  have hpl : ps.length ≤ N.length := by have := congrArg List.length S.pre; rw [List.length_take] at this; omega
  refine fnG_of F S (fun vs H Q E h => h.1) fun cdv A outer s H vs Q hg hr hsp => ⟨_, body cdv A outer s H hg hr, ?_⟩
  obtain ⟨hl, W, S0, as, d, t, S', e0, ha, e, q⟩ := hsp
  obtain ⟨o, e1, e⟩ := Option.bind_eq_some_iff.mp e
  refine tEvS.use (start_ok e0 ha N (by omega)) e1 ?_
  cases o with
  | rt d t s =>
    cases e
    exact fun v H' b s' r => q v H' (fun a u n z => b a u (by rw [e0.h0]; exact z) n) s' r
  | nx env s =>
    cases e
    intro W' σ' H' sm ok'
    refine q .non H' (fun a u n z => ok'.base a u (by rw [sm.h0, e0.h0]; exact z) fun y => n (sm.S.mp y)) ?_ Den.non
    exact src_sim ⟨sm.h0.symm, sm.bad.symm, sm.src.symm⟩ ok'.src
  | bk env s => cases e
  | ct env s => cases e

/-! ### calls of defs -/
mutual
/-- nothing in it can be changed -/
def immD : PyData → Bool
  | .none => true
  | .bool _ => true
  | .int _ => true
  | .str _ => true
  | .tuple ds => immDs ds
  | .list _ => false
  | .dict _ => false
def immDs : List PyData → Bool
  | [] => true
  | d :: r => immD d && immDs r
end
def toArg (a : PyData × Tag) : Option PyData := match a.2 with
  | .sr => none
  | _ => some a.1
def Tag.cs : Tag → Bool
  | .tp _ => false
  | _ => true
def eFn (F : FD) (ms : EDs) : ED := fun env S => (ms env S).bind fun r => (F (r.1.map toArg) r.2).bind fun q => if r.1.all (·.2.cs) then some q else (match q.2.1, q.1 with
  | .fr, .list ds => if immDs ds then some q else none
  | .cl, d => if immD d then some q else none
  | _, _ => none)
section
variable {P : Program} {w : World} {K : PySem.W.Frag} {N N' : Addr → Prop} {H : Hp}
mutual
theorem Den.imm (hN : ∀ a, N' a → ∀ vs, H a ≠ some (.tup vs)) : ∀ {v : V} (d : PyData), Den P w K N H v d → immD d = true → Den P w K N' H v d
  | _, .none, h, _ => by cases h; exact .non
  | _, .bool b, h, _ => by cases h; exact .bl b
  | _, .int i, h, _ => by cases h; exact .int i
  | _, .str x, h, _ => by cases h; exact .str x
  | _, .tuple ds, h, c => by
    cases h with
    | tup h t => exact .tup (h.elim (fun z => .inl ⟨z.1, fun y => hN _ y _ z.1⟩) .inr) (Dens.imm hN ds t (by simpa [immD] using c))
  | _, .list ds, h, c => by simp [immD] at c
  | _, .dict _, h, c => by simp [immD] at c
theorem Dens.imm (hN : ∀ a, N' a → ∀ vs, H a ≠ some (.tup vs)) : ∀ {vs : List V} (ds : List PyData), Dens P w K N H vs ds → immDs ds = true → Dens P w K N' H vs ds
  | _, [], h, _ => by cases h; exact .nil
  | _, d :: ds, h, c => by
    rw [immDs, Bool.and_eq_true] at c
    cases h with
    | cons h t => exact .cons (Den.imm hN d h c.1) (Dens.imm hN ds t c.2)
end
end
section
variable {P : Program} {w : World} {K : PySem.W.Frag} {W : Wd} {σ : L2.St} {H H' : Hp} {env : En} {S S' : SS}
/-- the callee's world: all that the caller holds is out of reach | (where an own object is handed in) not -/
def Wd.into (W : Wd) (H : Hp) (full : Bool) : Wd := { H0 := H, own := fun _ => none, bad := fun a => full = true ∧ W.N a, src := W.src }
theorem into_N {full : Bool} {a : Addr} (h : (W.into H full).N a) : W.N a := by
  rcases h with h | ⟨i, h⟩ | h
  · exact h.2
  · cases h
  · exact SN h
theorem into_B {full : Bool} {a : Addr} (h : (W.into H full).B a) : W.N a := h.elim (fun z => z.2) fun z => SN (W := W) z
theorem N_into {a : Addr} (h : W.N a) : (W.into H true).B a := .inl ⟨rfl, h⟩
theorem into_ok (ok : StOk P w K W σ H env S) (full : Bool) : En0 (W.into H full) H S where
  own := fun _ => rfl
  h0 := rfl
  bad := fun a h => ok.ofN' h.2
  src := by cases S <;> exact ok.src
theorem arg_ok {Ha : Hp} (ok : StOk P w K W σ H env S) (full : Bool) : ∀ {vs : List V} {ds : List (PyData × Tag)}, (∀ v d t, (VOk P w K W Ha H v d t) → t ≠ .sr → (t.cs = true ∨ full = false) → Den P w K (W.into H full).N H v d) →
    VsOk P w K W Ha H vs ds → (ds.all (·.2.cs) = true ∨ full = false) → ArgsOk P w K (W.into H full) H vs (ds.map toArg)
  | _, _, _, .nil, _ => .nil
  | _, _, g, .cons (t := t) h r, c => by
    refine .cons ?_ (arg_ok ok full g r (c.imp (fun z => by rw [List.all_cons, Bool.and_eq_true] at z; exact z.2) id))
    have c1 : t.cs = true ∨ full = false := c.imp (fun z => by rw [List.all_cons, Bool.and_eq_true] at z; exact z.1) id
    unfold toArg
    cases t with
    | sr => exact h
    | cl => exact g _ _ _ h (fun z => nomatch z) c1
    | fr => exact g _ _ _ h (fun z => nomatch z) c1
    | tp i => exact g _ _ _ h (fun z => nomatch z) c1
theorem fn_read {n : Nat} {F : FD} {ms : EDs} {Q : VK} {E : XK} (hn : ∀ env S r, ms env S = some r → r.1.length = n) (h : tEv P w K (eFn F ms) σ H Q) : tCall (spD P w K n F) [] E (tEvs P w K ms) σ H Q := by
  obtain ⟨W, env, S, ok, d, t, S', e, h⟩ := h
  obtain ⟨⟨ds, S1⟩, e1, e⟩ := Option.bind_eq_some_iff.mp e
  obtain ⟨⟨d2, t2, S2⟩, e2, e⟩ := Option.bind_eq_some_iff.mp e
  dsimp only at e e2
  refine tEvs.use ok e1 fun vs H1 ok1 k1 s1 hv => ?_
  rw [List.append_nil]
  refine ⟨by rw [hv.length]; exact hn env S _ e1, ?_⟩
  have back : ∀ {full : Bool} {Hx : Hp} {Sx : SS}, SrcOk (W.into H1 full) Hx Sx → SrcOk W Hx Sx := fun {full Hx Sx} z => by cases Sx <;> exact z
  split at e
  · rename_i hc
    cases e
    refine ⟨W.into H1 true, S1, _, d, t, S', into_ok ok1 true, arg_ok ok1 true (fun v d t hv ns c => ?_) hv (.inl hc), e2, fun v H' k s r => ?_⟩
    · have hcl : t.cln = true := by
        rcases c with c | c
        · cases t <;> first | rfl | (exact absurd rfl ns) | cases c
        · cases c
      exact (hv.clean ok hcl).mono fun a z => into_N z
    · refine h v H' (k1.trans k) (back s) ?_
      cases t with
      | cl => exact Den.mono (fun a z => N_into z) r
      | fr =>
        obtain ⟨a, ea, n0, ns, ob⟩ := r
        exact ⟨a, ea, ok.back k1 s1 n0, ob.imp (fun b u m q => ⟨fun z => m (z.elim (fun z => .inl (N_into z)) .inr), q⟩) fun _ q => q⟩
      | tp i => exact r.elim
      | sr => exact r.elim
  · have gen : (∀ v H', Kp W.S H1 H' → SrcOk W H' S2 → RtOk P w K (W.into H1 false) H' v d2 t2 → Q v H') →
        ∃ (W' : Wd) (S : SS) (as : List (Option PyData)) (d : PyData) (t : Tag) (S' : SS), En0 W' H1 S ∧ ArgsOk P w K W' H1 vs as ∧ F as S = some (d, t, S') ∧ ∀ v H', Kp W'.S H1 H' → SrcOk W' H' S' → RtOk P w K W' H' v d t → Q v H' := fun q => by
      refine ⟨W.into H1 false, S1, _, d2, t2, S2, into_ok ok1 false, arg_ok ok1 false (fun v d t hv ns c => ?_) hv (.inr rfl), e2, fun v H' k s r => q v H' k (back s) r⟩
      have hN : ∀ a, (W.into H1 false).N a → W.S a := fun a z => by
        rcases z with z | ⟨i, z⟩ | z
        · cases z.1
        · cases z
        · exact z
      cases t with
      | cl => exact Den.mono (fun a z => SN (hN a z)) hv
      | fr =>
        obtain ⟨a, ea, n0, ob⟩ := hv
        rw [ea]
        exact (ob.imp (fun b u m q => ⟨fun z => m (.inl (SN (hN b z))), q⟩) fun _ q => q : Ob P w K (W.into H1 false).N H1 a d).den fun z => ok.fresh n0 (SN (hN a z))
      | tp i =>
        obtain ⟨a, e0, ea, ob⟩ := hv
        rw [ea]
        exact (ob.imp (fun b u m q => ⟨fun z => m (SN (hN b z)), q⟩) fun _ q => q : Ob P w K (W.into H1 false).N H1 a d).den fun z => (ok.own0 i a e0).2 (hN a z)
      | sr => exact absurd rfl ns
    have nt : ∀ {H' : Hp}, Kp W.S H1 H' → SrcOk W H' S2 → ∀ a, W.N a → ∀ vs, H' a ≠ some (.tup vs) := fun {H'} k s a n vs z => by
      obtain ⟨u, e, nu⟩ := (ok1.grow k s).ofN' n
      rw [e] at z
      cases z
      exact nu _ rfl
    split at e
    · split at e
      case isFalse => cases e
      rename_i hi
      cases e
      refine gen fun v H' k s r => h v H' (k1.trans k) s ?_
      obtain ⟨a, ea, n0, ns, ob⟩ := r
      refine ⟨a, ea, ok.back k1 s1 n0, ?_⟩
      cases ob with
      | lst e4 t4 =>
        refine .lst e4 (Dens.imm (fun b z vs q => ?_) _ t4 hi)
        rcases z with z | z
        · exact nt k s b z vs q
        · rw [z, e4] at q; cases q
    · split at e
      case isFalse => cases e
      rename_i hi
      cases e
      exact gen fun v H' k s r => h v H' (k1.trans k) s (Den.imm (nt k s) _ r hi)
    · cases e
end
section
variable {X : Cx} {k : Nat} {f : Addr} {fd : FuncData} {ps : List Str} {F : FD} {x : Str} {p pos : Pos} {e : Expr} {es : List Expr} {ms : EDs}
theorem callee {sp : Sp} {pins : List (Addr × Obj)} {σ : L2.St} {H : Hp} {s : Shared} {Q : VK} {us : List Value} {vs : List V} (G : FnG X.prog X.w X.K X.mg X.base k f fd ps sp) (hg : X.A.guards = some []) (hr : Room k X.A) (hb : Binds X.K fd ps [])
    (I : Inv X pins σ H s) (r : Vals vs us) (h : sp vs H Q E0) : wpAny (model X.prog X.w) X.A (PySem.call (.ref f) us) (EP X pins σ Q) X.xe s := by
  have hl : us.length = ps.length := by rw [← r.length]; exact G.len _ _ _ _ h
  have hbb := hb s us I.kIn (by rw [List.append_nil]; exact hl)
  rw [List.append_nil] at hbb
  refine wpAny_call (codeAny_mono (G.run X.A X.stack s H ⟨us, []⟩ us vs Q hg hr I.env0 hbb r h) fun rr s' hq => ?_)
  cases rr with
  | error e => exact hq.elim
  | ok fl =>
    cases fl with
    | ret u => exact I.after hq
    | next => exact hq.elim
    | brk => exact hq.elim
    | cont => exact hq.elim
/-- f(..) by its promise -/
theorem pe_fnG {sp : Sp} {t : TA} (G : FnG X.prog X.w X.K X.mg X.base k f fd ps sp) (hg : X.A.guards = some []) (hr : Room k X.A) (hgl : Gl X x) (hm : X.mg x = some (.ref f)) (hk : PySem.W.keepIn X.K (.ref f) = true) (hb : Binds X.K fd ps [])
    (ha : PA X (e :: es) t) (hdb : (x == ("__debug__" : Str)) = false) (he : starEach (e :: es) X.env = (false, eval e X.env) :: starEach es X.env) (hpl : (backTo pos (starEach es X.env)).any (·.1) = false) :
    PE X (.Call (.Name x p) (e :: es) [] pos) (tCall sp [] E0 t) := by
  constructor
  intro pins s σ H Q I h
  refine wpAny_Call_Name_kw (ld_glob I hgl hm ?_ hdb)
  refine PySem.W.callWith_K (h₀ := X.base) I.ok.mod.kin hk (thn (ha.run pos pins s σ H _ I h) fun us s1 ⟨vs, H1, I1, r, q⟩ => ⟨I1.kIn, ?_⟩) he hpl
  have q : sp (vs ++ []) H1 Q E0 := q
  rw [List.append_nil] at q
  exact callee G hg hr hb I1 r q
theorem ee_fn (G : FnG X.prog X.w X.K X.mg X.base k f fd ps (spD X.prog X.w X.K ps.length F)) (hm : X.mg x = some (.ref f)) (hk : PySem.W.keepIn X.K (.ref f) = true) (hb : Binds X.K fd ps []) (hg : X.A.guards = some []) (hr : Room k X.A) (hgl : Gl X x)
    (ha : EA X (e :: es) ms) (hn : ∀ env S r, ms env S = some r → r.1.length = ps.length) (hdb : (x == ("__debug__" : Str)) = false := by decide) (he : starEach (e :: es) X.env = (false, eval e X.env) :: starEach es X.env := by rfl)
    (hpl : (backTo pos (starEach es X.env)).any (·.1) = false := by rfl) : EE X (.Call (.Name x p) (e :: es) [] pos) (eFn F ms) :=
  pe_wk (pe_fnG G hg hr hgl hm hk hb ha hdb he hpl) fun _ _ _ h => fn_read hn h
theorem n_nil (env : En) (S : SS) (r : List (PyData × Tag) × SS) (h : dNil env S = some r) : r.1.length = 0 := by cases h; rfl
theorem n_cons {m : ED} {ms : EDs} {n : Nat} (hn : ∀ env S r, ms env S = some r → r.1.length = n) (env : En) (S : SS) (r : List (PyData × Tag) × SS) (h : dCons m ms env S = some r) : r.1.length = n + 1 := by
  obtain ⟨q, e1, h⟩ := Option.bind_eq_some_iff.mp h
  obtain ⟨q2, e2, h⟩ := Option.bind_eq_some_iff.mp h
  cases h
  rw [List.length_cons, hn _ _ _ e2]
end
end Ev

namespace Ev
open PySem PySem.Spec PyProof.Rows L2

/-! ### enumerate of a tuple -/
theorem enum_newT (a : Addr) (items : Array Value) :
    Meets (Builtin.«enumerate.__new__» ⟨[.type "enumerate", .ref a], []⟩) (fun _ R s => s.heap.IsTuple a items ∧
      R (.ok (.ret (.ref (s.heap.push { cls := .type "tuple_iterator", data := .fields #[.ref a, .int 0 0] }).objs.size)))
        { s with heap := (s.heap.push { cls := .type "tuple_iterator", data := .fields #[.ref a, .int 0 0] }).push { cls := .type "enumerate", data := .fields #[.none, .bool false, .ref s.heap.objs.size, rawInt 0, .none, .none] } }) :=
  .of_wp fun prog w A R s q => by
    obtain ⟨hp, g, d, tk, os⟩ := s
    obtain ⟨tup, q⟩ := q
    have less := sub_enumerate
    have step : ∀ {A' : Around} {E : Value → Shared → Prop} {Q : Value → Shared → Prop}, Q (.ref hp.objs.size) ⟨hp.push { cls := .type "tuple_iterator", data := .fields #[.ref a, .int 0 0] }, g, d, tk, os⟩ → wpAny (model prog w) A' (pyIter (.ref a)) Q E ⟨hp, g, d, tk, os⟩ :=
      fun z => (begins_tuple a items).iter prog w _ _ ⟨hp, g, d, tk, os⟩ _ tup z
    wp_walk using step
    refine wpAny_stack_any fun st => wpAny_pure ?_
    split
    · rename_i c _ _ _ _ _
      cases (c == Value.type "enumerate") <;> (wp_walk using step; exact ⟨_, rfl, q⟩)
    · wp_walk using step
      exact ⟨_, rfl, q⟩
theorem call_enumT {prog : Program} {w : World} {A : Around} {E : Value → Shared → Prop} {s : Shared} {a : Addr} {items : Array Value} {Q : Value → Shared → Prop} (tup : s.heap.IsTuple a items)
    (h : ∀ h', IsEnum h' (s.heap.objs.size + 1) s.heap.objs.size ((0 : Nat) : Int) .none → h'.IsTupleIter s.heap.objs.size a 0 → (∀ b o, s.heap.get? b = some o → h'.get? b = some o) → Q (.ref (s.heap.objs.size + 1)) { s with heap := h' }) :
    wpAny (model prog w) A (call (.type "enumerate") [.ref a]) Q E s := by
  refine callType_new F.called_enumerate (by decide) (F.typeCall_enumerate_1 _) (F.newCall_enumerate_1 _) (fun obj => F.args_object_init_2 obj _) F.entry_enumerate_new (enum_newT a items) ⟨tup, ?_⟩
  have hz : (s.heap.push { cls := .type "tuple_iterator", data := .fields #[.ref a, .int 0 0] }).objs.size = s.heap.objs.size + 1 := Heap.size_push ..
  show _ ∧ _
  rw [hz]
  have made := Heap.get?_push_size (s.heap.push { cls := .type "tuple_iterator", data := .fields #[.ref a, .int 0 0] })
    (o := { cls := .type "enumerate", data := .fields #[.none, .bool false, .ref s.heap.objs.size, rawInt 0, .none, .none] }) rfl
  rw [hz] at made
  exact ⟨⟨_, made, rfl⟩, h _ made ⟨_, Heap.get?_push_of_some _ (Heap.get?_push_size _ rfl), rfl, rfl⟩ fun b o x => Heap.get?_push_of_some _ (Heap.get?_push_of_some _ x)⟩
/-- the tuple at a, each item in a new pair with its number -/
def IteT (K : PySem.W.Frag) (a : Addr) : It :=
  ⟨fun i H => ∃ (xs : List V) (x : V), SqT K H a xs ∧ xs[i]? = some x, fun i H v H' => ∃ T x, v = .ref T ∧ H T = none ∧ H' = upd H T (.tup [.int (i : Nat), x]) ∧ ∀ xs, SqT K H a xs → xs[i]? = some x, fun i H => ∃ xs : List V, SqT K H a xs ∧ xs.length ≤ i⟩
theorem turn_enumT {P : Program} {w : World} {K : PySem.W.Frag} {elts : List Expr} {kk : Nat} {tpos : Pos} {a e it : Addr} (hae : a ≠ e) (hai : a ≠ it) :
    Turn P w K (.Tuple elts kk tpos) (IteT K a) [e, it] e (fun i h => (∃ old, IsEnum h e it ((i : Nat) : Int) old) ∧ h.IsTupleIter it a i ∧ e ≠ it) where
  mem := List.mem_cons_self ..
  obj := fun i h st b hb => by
    obtain ⟨⟨old, he⟩, ⟨o, ho, hc, hd⟩, _⟩ := st
    rcases List.mem_cons.mp hb with z | z
    · rw [z]; exact ⟨_, he, fun v q => nomatch q⟩
    · rw [List.mem_singleton.mp z]; exact ⟨o, ho, fun v q => by rw [hd] at q; cases q⟩
  keep := fun i h h' st k => by
    obtain ⟨⟨old, he⟩, hi, hne⟩ := st
    exact ⟨⟨old, k e (List.mem_cons_self ..) _ he⟩, hi.at fun o q => k it (List.mem_cons_of_mem _ (List.mem_cons_self ..)) o q, hne⟩
  item := by
    intro X hP hw hK hc i pins s σ H E I hf st hg
    subst hP hw hK
    obtain ⟨⟨old, he⟩, hit, hne⟩ := st
    obtain ⟨xs, x, hq, hx⟩ := hg
    obtain ⟨its, rv, p, hz⟩ := I.tuple hq
    obtain ⟨u, hu, ru⟩ := rv.get hx
    have hel : e < s.heap.objs.size := Heap.lt_size he
    have hil : it < s.heap.objs.size := by obtain ⟨_, q, _⟩ := hit; exact Heap.lt_size q
    have hlt : i < its.toArray.size := by
      obtain ⟨z, _⟩ := List.getElem?_eq_some_iff.mp hu
      simpa using z
    have D : Draws X.prog X.w X.A.in1 it [it, a] its.toArray.size (fun i v => its.toArray[i]? = some v) (fun i h => h.IsTupleIter it a i ∧ h.IsTuple a its.toArray) := Draws.tuple (show X.A.in1.handled = none from I.ok.hd hc) it a hai its.toArray
    refine wpAny_pyNext_enum_itemD D he ⟨hit, p⟩ hlt hne (by simp [hne, Ne.symm hae]) fun y h' tk py ho hit' hT hsz hk => ?_
    have hy : y = u := by
      have py : its.toArray[i]? = some y := py
      rw [List.getElem?_toArray, hu] at py
      cases py; rfl
    subst hy
    refine ⟨_, rfl, wpAny_letOwnedTupleGo_enum (s := { s with heap := h', toks := tk + 1 }) ho fun h'' he' sb => ?_⟩
    have hT2 : h''.get? s.heap.objs.size = some { cls := .type "tuple", data := .seq #[.int i tk, y] } := (sb.2 _ (Nat.ne_of_gt hel)).trans hT
    have new : ObjOk X.prog X.w (upd H s.heap.objs.size (.tup [.int (i : Nat), x])) h'' s.heap.objs.size (.tup [.int (i : Nat), x]) :=
      ⟨by show 2 ≤ sizeLine; decide, [.int i tk, y], .cons ⟨_, rfl⟩ (.cons ru .nil), ⟨_, hT2, rfl, _, rfl⟩⟩
    have I1 : Inv X pins σ (upd H s.heap.objs.size (.tup [.int (i : Nat), x])) { s with heap := h'', toks := tk + 1 } :=
      I.turnedNew (ch := [e, it]) (fun b ob hb q => by
        have b1 : b ≠ e := fun z => hb (z ▸ List.mem_cons_self ..)
        have b2 : b ≠ it := fun z => hb (z ▸ List.mem_cons_of_mem _ (List.mem_cons_self ..))
        exact (sb.2 b b1).trans (hk b ob b1 b2 q)) hf (Nat.le_refl _) new
    refine ⟨.ref s.heap.objs.size, _, I1, rfl, ⟨_, x, rfl, I.hok.fresh (Nat.le_refl _), rfl, fun ys hy => by rw [I.tuple_inj hy hq]; exact hx⟩, ⟨⟨y, ?_⟩, hit'.1.at fun o q => (sb.2 it (Ne.symm hne)).trans q, hne⟩, fun b hb => ?_⟩
    · have e1 : ((i + 1 : Nat) : Int) = (i : Int) + 1 := by omega
      rw [e1]; exact he'
    · have hb' : b < s.heap.objs.size := by
        rcases List.mem_cons.mp hb with z | z
        · rw [z]; exact hel
        · rw [List.mem_singleton.mp z]; exact hil
      rw [upd_ne (Nat.ne_of_lt hb')]
      exact (hf b hb).1
  done := by
    intro X hP hw hK hc i pins s σ H E I hf st hg
    subst hP hw hK
    obtain ⟨⟨old, he⟩, hit, hne⟩ := st
    obtain ⟨xs, hq, hx⟩ := hg
    obtain ⟨its, rv, p, hz⟩ := I.tuple hq
    obtain ⟨f0, f1, f2, f3, f4, f5⟩ := hf it (List.mem_cons_of_mem _ (List.mem_cons_self ..))
    have hl := rv.length
    have hT : s.TypeIs (.ref e) "enumerate" := ⟨_, he, rfl⟩
    unfold pyNext
    refine wpAny_bind (wpAny_attempt (wpAny_callSpecial?_slot (name := Str.ofString "__next__") hT F.slot_enumerate_next
      (wpAny_call_entry F.slot_enumerate_next hT F.entry_enumerate_next ?_ (F.args_enumerate_next_1 _))))
    show wpAny _ _ (field (.ref e) 2 >>= _) _ _ _
    refine wpAny_bind (wpAny_field he rfl (x := .ref it) rfl ?_)
    refine wpAny_bind (RZ.nextOf_tuple_end (show X.A.in1.handled = none from I.ok.hd hc) hit (show s.heap.IsTuple a its.toArray from p) (by rw [List.getElem?_toArray, List.getElem?_eq_none (by omega)]) fun h' x he' hx' => ?_)
    obtain ⟨o, ho, hcc⟩ := hx'
    refine wpAny_bind (wpAny_isInstance (T := "StopIteration") (b := true) ⟨o, ho, hcc⟩ isSubtype_stop ?_)
    exact wpAny_pure ⟨rfl, I.turned (t' := s.toks) (fun b o hb q => he' b o hb q) f0 f1 f3 f4 f5⟩
  self := fun A i s Q E st h => let ⟨⟨_, he⟩, _⟩ := st; wpAny_pyIter_enum he h
def iEnT (K : PySem.W.Frag) (ta : TA) : TI := fun σ H R => ta σ H fun vs H1 => ∃ a xs, vs = [.ref a] ∧ SqT K H1 a xs ∧ R (IteT K a) H1
theorem pi_enumT {X : Cx} {e : Expr} {ta : TA} {p pos tpos : Pos} {elts : List Expr} {kk : Nat} (hg : Gl X "enumerate") (hm : X.mg "enumerate" = none) (ha : PA X [e] ta) (hs : starEach [e] X.env = [(false, eval e X.env)] := by rfl) :
    PI X (.Tuple elts kk tpos) (.Call (.Name "enumerate" p) [e] [] pos) (iEnT X.K ta) := by
  refine ⟨fun pins s σ H R I h => ?_⟩
  refine Call_ (ld_blt I hg hm boot_enumerate (PyProof.Rows.callWith_type1 (thn (ha.run pos pins s σ H _ I h) fun us s1 ⟨vs, H1, I1, r1, a, xs, ex, hq, q⟩ => ?_) hs rfl))
  subst ex
  cases r1 with
  | cons r rr =>
    cases rr
    cases r
    obtain ⟨its, rv, tup, hz⟩ := I1.tuple hq
    have la : a < s1.heap.objs.size := by obtain ⟨o, ho, _⟩ := id tup; exact Heap.lt_size ho
    refine call_enumT (show s1.heap.IsTuple a its.toArray from tup) fun h' he hit hk => wpAny_pyIter_enum he ?_
    have I2 : Inv X pins σ H1 { s1 with heap := h' } := I1.kept (t' := s1.toks) hk
    refine ⟨s1.heap.objs.size + 1, [s1.heap.objs.size + 1, s1.heap.objs.size], _, _, H1, rfl, I2, turn_enumT (a := a) (Nat.ne_of_lt (Nat.lt_succ_of_lt la)) (Nat.ne_of_lt la), ⟨⟨.none, he⟩, hit, Nat.succ_ne_self _⟩, fun b hb => ?_, q⟩
    have hle : s1.heap.objs.size ≤ b := by
      rcases List.mem_cons.mp hb with z | z
      · rw [z]; exact Nat.le_add_right _ _
      · rw [List.mem_singleton.mp z]; exact Nat.le_refl _
    exact I1.fpOk hle (I1.hok.fresh hle)

/-! ### enumerate and zip, by data -/
def seqOf : PyData → Option (List PyData)
  | .list ds => some ds
  | .tuple ds => some ds
  | _ => none
def enumD (ds : List PyData) : List PyData := ds.zipIdx.map fun p => .tuple [.int ((p.2 : Nat) : Int), p.1]
def iEn (ok : Tag → Bool) (ms : EDs) : ID := fun env S => (ms env S).bind fun r => match r.1 with
  | [(d, t)] => if ok t then (seqOf d).map fun ds => (enumD ds, r.2) else none
  | _ => none
theorem enumD_get {ds : List PyData} {i : Nat} {d : PyData} (h : (enumD ds)[i]? = some d) : ∃ x, ds[i]? = some x ∧ d = .tuple [.int ((i : Nat) : Int), x] := by
  unfold enumD at h
  rw [List.getElem?_map, List.getElem?_zipIdx] at h
  cases e : ds[i]? with
  | none => rw [e] at h; cases h
  | some x => rw [e] at h; cases h; exact ⟨x, rfl, by simp⟩
theorem enumD_len (ds : List PyData) : (enumD ds).length = ds.length := by unfold enumD; simp
theorem wk_enumL {P : Program} {w : World} {K : PySem.W.Frag} {N M : Addr → Prop} {H : Hp} {a : Addr} {vs : List V} {ds : List PyData} (h : H a = some (.lst vs)) (n : ¬ M a) (t : Dens P w K N H vs ds) : Wk P w K N M H (Ite K a) (enumD ds) where
  go := fun i H' k hi => by
    rw [enumD_len, ← t.length] at hi
    exact ⟨vs, vs[i], .inl (.inl (k a _ n h)), List.getElem?_eq_getElem hi⟩
  yl := fun i H1 x H' d k e y => by
    obtain ⟨d0, e0, rfl⟩ := enumD_get e
    obtain ⟨T, x', rfl, hT, rfl, y⟩ := y
    obtain ⟨d', e', hd⟩ := t.get (y vs (.inl (.inl (k a _ n h))))
    rw [e0] at e'; cases e'
    exact .inr ⟨T, _, _, rfl, rfl, hT, rfl, .cons (Den.int _) (.cons hd .nil)⟩
  stop := fun i H' k hi => ⟨vs, .inl (.inl (k a _ n h)), by rw [t.length, ← enumD_len]; exact hi⟩
theorem wk_enumT {P : Program} {w : World} {K : PySem.W.Frag} {N M : Addr → Prop} {H : Hp} {a : Addr} {vs : List V} {ds : List PyData} (h : (H a = some (.tup vs) ∧ ¬ M a) ∨ SqT K (fun _ => none) a vs) (t : Dens P w K N H vs ds) : Wk P w K N M H (IteT K a) (enumD ds) where
  go := fun i H' k hi => by
    rw [enumD_len, ← t.length] at hi
    exact ⟨vs, vs[i], sqT_keep h k, List.getElem?_eq_getElem hi⟩
  yl := fun i H1 x H' d k e y => by
    obtain ⟨d0, e0, rfl⟩ := enumD_get e
    obtain ⟨T, x', rfl, hT, rfl, y⟩ := y
    obtain ⟨d', e', hd⟩ := t.get (y vs (sqT_keep h k))
    rw [e0] at e'; cases e'
    exact .inr ⟨T, _, _, rfl, rfl, hT, rfl, .cons (Den.int _) (.cons hd .nil)⟩
  stop := fun i H' k hi => ⟨vs, sqT_keep h k, by rw [t.length, ← enumD_len]; exact hi⟩
/-- a read value's place, where it is a list or a tuple -/
theorem rd_lst {P : Program} {w : World} {K : PySem.W.Frag} {W : Wd} {σ : L2.St} {H H' : Hp} {env : En} {S : SS} {v : V} {ds : List PyData} {t : Tag} (ok : StOk P w K W σ H env S) (hv : VOk P w K W H H' v (.list ds) t) (hr : t.rd = true) :
    ∃ a vs, v = .ref a ∧ H' a = some (.lst vs) ∧ Dens P w K W.N H' vs ds ∧ ¬ W.S a := by
  obtain ⟨a, vs, rfl, h1, t1⟩ := hv.lst hr
  refine ⟨a, vs, rfl, h1, t1, ?_⟩
  cases t with
  | cl =>
    cases hv with
    | lst h1 n1 t1 => exact fun z => n1 (SN z)
  | fr =>
    obtain ⟨b, eb, nb, _⟩ := hv
    cases eb
    exact fun z => ok.fresh nb (SN z)
  | tp i =>
    obtain ⟨b, eb, e2, _⟩ := hv
    cases e2
    exact (ok.own0 i _ eb).2
  | sr => cases hr
theorem cl_lst {P : Program} {w : World} {K : PySem.W.Frag} {W : Wd} {σ : L2.St} {H H' : Hp} {env : En} {S : SS} {v : V} {ds : List PyData} {t : Tag} (ok : StOk P w K W σ H env S) (hv : VOk P w K W H H' v (.list ds) t) (hr : t.cln = true) :
    ∃ a vs, v = .ref a ∧ H' a = some (.lst vs) ∧ Dens P w K W.N H' vs ds ∧ ¬ W.N a := by
  cases hv.clean ok hr with
  | lst h1 n1 t1 => exact ⟨_, _, rfl, h1, t1, n1⟩
theorem rd_tup {P : Program} {w : World} {K : PySem.W.Frag} {W : Wd} {H H' : Hp} {v : V} {ds : List PyData} {t : Tag} (hv : VOk P w K W H H' v (.tuple ds) t) (hr : t.rd = true) {M : Addr → Prop} (hM : ∀ a, M a → W.N a) :
    ∃ a vs, v = .ref a ∧ ((H' a = some (.tup vs) ∧ ¬ M a) ∨ SqT K (fun _ => none) a vs) ∧ Dens P w K W.N H' vs ds := by
  obtain ⟨a, vs, rfl, h1, t1, w1⟩ := hv.tup hr
  exact ⟨a, vs, rfl, w1.elim (fun z => .inl ⟨z.1, fun y => z.2 (hM _ y)⟩) .inr, t1⟩
section
variable {X : Cx} {e : Expr} {ms : EDs} {pos p tpos : Pos} {elts : List Expr} {kk : Nat}
theorem en_read {P : Program} {w : World} {K : PySem.W.Frag} {M : Wd → Addr → Prop} {ok : Tag → Bool} {σ : L2.St} {H : Hp} {R : It → Hp → Prop} (hM : ∀ W a, M W a → W.N a) (hrd : ∀ t, ok t = true → t.rd = true)
    (hl : ∀ {W : Wd} {σ : L2.St} {H H' : Hp} {env : En} {S : SS} {v : V} {ds : List PyData} {t : Tag}, StOk P w K W σ H env S → VOk P w K W H H' v (.list ds) t → ok t = true → ∃ a vs, v = .ref a ∧ H' a = some (.lst vs) ∧ Dens P w K W.N H' vs ds ∧ ¬ M W a)
    (h : tEvI P w K M (iEn ok ms) σ H R) : iEnum K (tEvs P w K ms) σ H R ∨ iEnT K (tEvs P w K ms) σ H R := by
  obtain ⟨W, env, S, ok0, ds, S', e, h⟩ := h
  obtain ⟨⟨as, S1⟩, e1, e⟩ := Option.bind_eq_some_iff.mp e
  dsimp only at e
  split at e
  case h_2 => cases e
  rename_i d t
  split at e
  case isFalse => cases e
  rename_i hok
  obtain ⟨zs, e2, e⟩ := Option.map_eq_some_iff.mp e
  cases e
  cases d with
  | list l =>
    cases e2
    refine .inl (tEvs.use ok0 e1 fun vs H1 ok1 k1 s1 hv => ?_)
    obtain ⟨v, rfl, hv1⟩ := vs1 hv
    obtain ⟨a, vs, rfl, h1, t1, n1⟩ := hl ok0 hv1 hok
    exact ⟨a, vs, rfl, .inl (.inl h1), h _ H1 k1 s1 (wk_enumL h1 n1 t1)⟩
  | tuple l =>
    cases e2
    refine .inr (tEvs.use ok0 e1 fun vs H1 ok1 k1 s1 hv => ?_)
    obtain ⟨v, rfl, hv1⟩ := vs1 hv
    obtain ⟨a, vs, rfl, h1, t1⟩ := rd_tup hv1 (hrd t hok) (hM W)
    exact ⟨a, vs, rfl, sqT_of h1, h _ H1 k1 s1 (wk_enumT h1 t1)⟩
  | _ => cases e2
theorem ei_enum (hg : Gl X "enumerate") (hm : X.mg "enumerate" = none) (ha : EA X [e] ms) (hs : starEach [e] X.env = [(false, eval e X.env)] := by rfl) : EI X (.Tuple elts kk tpos) (.Call (.Name "enumerate" p) [e] [] pos) (iEn Tag.cln ms) :=
  pi_wk (pi_or (pi_enum hg hm ha hs) (pi_enumT hg hm ha hs)) fun _ _ _ h => en_read (fun _ _ z => z) (fun t z => by cases t <;> first | rfl | cases z) (fun o v z => cl_lst o v z) h
theorem eic_enum (hg : Gl X "enumerate") (hm : X.mg "enumerate" = none) (ha : EA X [e] ms) (hs : starEach [e] X.env = [(false, eval e X.env)] := by rfl) : EIc X (.Tuple elts kk tpos) (.Call (.Name "enumerate" p) [e] [] pos) (iEn Tag.rd ms) :=
  pi_wk (pi_or (pi_enum hg hm ha hs) (pi_enumT hg hm ha hs)) fun _ _ _ h => en_read (fun _ _ z => SN z) (fun t z => z) (fun o v z => rd_lst o v z) h
end
end Ev

namespace Ev
open PySem L2 RZ

/-! ### zip of two lists, of two tuples -/
def zipD (ds es : List PyData) : List PyData := List.zipWith (fun a b => .tuple [a, b]) ds es
def zipS : PyData → PyData → Option (List PyData)
  | .list ds, .list es => some (zipD ds es)
  | .tuple ds, .tuple es => some (zipD ds es)
  | _, _ => none
def iZp (ok : Tag → Bool) (ms : EDs) : ID := fun env S => (ms env S).bind fun r => match r.1 with
  | [(d, t), (e, u)] => if ok t && ok u then (zipS d e).map fun ds => (ds, r.2) else none
  | _ => none
theorem zipD_get {ds es : List PyData} {i : Nat} {d : PyData} (h : (zipD ds es)[i]? = some d) : ∃ x y, ds[i]? = some x ∧ es[i]? = some y ∧ d = .tuple [x, y] := by
  unfold zipD at h
  rw [List.getElem?_zipWith] at h
  cases e : ds[i]? with
  | none => rw [e] at h; cases h
  | some x =>
    cases e' : es[i]? with
    | none => rw [e, e'] at h; cases h
    | some y => rw [e, e'] at h; cases h; exact ⟨x, y, rfl, rfl, rfl⟩
theorem zipD_len (ds es : List PyData) : (zipD ds es).length = min ds.length es.length := by unfold zipD; rw [List.length_zipWith]
section
variable {P : Program} {w : World} {K : PySem.W.Frag} {N M : Addr → Prop} {H : Hp} {a b : Addr} {vs us : List V} {ds es : List PyData}
theorem wk_zipL (h : H a = some (.lst vs)) (n : ¬ M a) (t : Dens P w K N H vs ds) (h' : H b = some (.lst us)) (n' : ¬ M b) (t' : Dens P w K N H us es) : Wk P w K N M H (Itz K a b) (zipD ds es) where
  go := fun i H' k hi => by
    rw [zipD_len, ← t.length, ← t'.length] at hi
    exact ⟨vs, us, vs[i], us[i], .inl (.inl (k a _ n h)), .inl (.inl (k b _ n' h')), List.getElem?_eq_getElem (by omega), List.getElem?_eq_getElem (by omega)⟩
  yl := fun i H1 x H' d k e y => by
    obtain ⟨d0, d1, e0, e1, rfl⟩ := zipD_get e
    obtain ⟨T, x', y', rfl, hT, rfl, y1, y2⟩ := y
    obtain ⟨d', q, hd⟩ := t.get (y1 vs (.inl (.inl (k a _ n h))))
    rw [e0] at q; cases q
    obtain ⟨d', q, hd'⟩ := t'.get (y2 us (.inl (.inl (k b _ n' h'))))
    rw [e1] at q; cases q
    exact .inr ⟨T, _, _, rfl, rfl, hT, rfl, .cons hd (.cons hd' .nil)⟩
  stop := fun i H' k hi => ⟨vs, us, .inl (.inl (k a _ n h)), .inl (.inl (k b _ n' h')), by rw [t.length, t'.length]; rw [zipD_len] at hi; omega⟩
theorem wk_zipT (h : (H a = some (.tup vs) ∧ ¬ M a) ∨ SqT K (fun _ => none) a vs) (t : Dens P w K N H vs ds) (h' : (H b = some (.tup us) ∧ ¬ M b) ∨ SqT K (fun _ => none) b us) (t' : Dens P w K N H us es) : Wk P w K N M H (ItzT K a b) (zipD ds es) where
  go := fun i H' k hi => by
    rw [zipD_len, ← t.length, ← t'.length] at hi
    exact ⟨vs, us, vs[i], us[i], sqT_keep h k, sqT_keep h' k, List.getElem?_eq_getElem (by omega), List.getElem?_eq_getElem (by omega)⟩
  yl := fun i H1 x H' d k e y => by
    obtain ⟨d0, d1, e0, e1, rfl⟩ := zipD_get e
    obtain ⟨T, x', y', rfl, hT, rfl, y1, y2⟩ := y
    obtain ⟨d', q, hd⟩ := t.get (y1 vs (sqT_keep h k))
    rw [e0] at q; cases q
    obtain ⟨d', q, hd'⟩ := t'.get (y2 us (sqT_keep h' k))
    rw [e1] at q; cases q
    exact .inr ⟨T, _, _, rfl, rfl, hT, rfl, .cons hd (.cons hd' .nil)⟩
  stop := fun i H' k hi => ⟨vs, us, sqT_keep h k, sqT_keep h' k, by rw [t.length, t'.length]; rw [zipD_len] at hi; omega⟩
theorem zp_read {M : Wd → Addr → Prop} {ok : Tag → Bool} {σ : L2.St} {R : It → Hp → Prop} {ms : EDs} (hM : ∀ W a, M W a → W.N a) (hrd : ∀ t, ok t = true → t.rd = true)
    (hl : ∀ {W : Wd} {σ : L2.St} {H H' : Hp} {env : En} {S : SS} {v : V} {ds : List PyData} {t : Tag}, StOk P w K W σ H env S → VOk P w K W H H' v (.list ds) t → ok t = true → ∃ a vs, v = .ref a ∧ H' a = some (.lst vs) ∧ Dens P w K W.N H' vs ds ∧ ¬ M W a)
    (h : tEvI P w K M (iZp ok ms) σ H R) : iZipA K (tEvs P w K ms) σ H R := by
  obtain ⟨W, env, S, ok0, ds, S', e, h⟩ := h
  obtain ⟨⟨as, S1⟩, e1, e⟩ := Option.bind_eq_some_iff.mp e
  dsimp only at e
  split at e
  case h_2 => cases e
  rename_i d t d' t'
  split at e
  case isFalse => cases e
  rename_i hok
  rw [Bool.and_eq_true] at hok
  obtain ⟨zs, e2, e⟩ := Option.map_eq_some_iff.mp e
  cases e
  refine tEvs.use ok0 e1 fun vs H1 ok1 k1 s1 hv => ?_
  obtain ⟨v, u, rfl, hv1, hv2⟩ := vs2 hv
  unfold zipS at e2
  split at e2
  · cases e2
    obtain ⟨a, vs, rfl, h1, t1, n1⟩ := hl ok0 hv1 hok.1
    obtain ⟨b, us, rfl, h2, t2, n2⟩ := hl ok0 hv2 hok.2
    exact ⟨a, b, vs, us, rfl, .inl ⟨.inl (.inl h1), .inl (.inl h2), h _ H1 k1 s1 (wk_zipL h1 n1 t1 h2 n2 t2)⟩⟩
  · cases e2
    obtain ⟨a, vs, rfl, h1, t1⟩ := rd_tup hv1 (hrd _ hok.1) (hM W)
    obtain ⟨b, us, rfl, h2, t2⟩ := rd_tup hv2 (hrd _ hok.2) (hM W)
    exact ⟨a, b, vs, us, rfl, .inr ⟨sqT_of h1, sqT_of h2, h _ H1 k1 s1 (wk_zipT h1 t1 h2 t2)⟩⟩
  · cases e2
end
section
variable {X : Cx} {e e2 : Expr} {ms : EDs} {pos p tpos : Pos} {elts : List Expr} {kk : Nat}
theorem ei_zip (hg : Gl X "zip") (hm : X.mg "zip" = none) (ha : EA X [e, e2] ms) (hs : starEach [e, e2] X.env = (false, eval e X.env) :: starEach [e2] X.env := by rfl) (hpl : (backTo pos (starEach [e2] X.env)).any (·.1) = false := by rfl) : EI X (.Tuple elts kk tpos) (.Call (.Name "zip" p) [e, e2] [] pos) (iZp Tag.cln ms) :=
  pi_wk (pi_zipA hg hm ha hs hpl) fun _ _ _ h => zp_read (fun _ _ z => z) (fun t z => by cases t <;> first | rfl | cases z) (fun o v z => cl_lst o v z) h
theorem eic_zip (hg : Gl X "zip") (hm : X.mg "zip" = none) (ha : EA X [e, e2] ms) (hs : starEach [e, e2] X.env = (false, eval e X.env) :: starEach [e2] X.env := by rfl) (hpl : (backTo pos (starEach [e2] X.env)).any (·.1) = false := by rfl) : EIc X (.Tuple elts kk tpos) (.Call (.Name "zip" p) [e, e2] [] pos) (iZp Tag.rd ms) :=
  pi_wk (pi_zipA hg hm ha hs hpl) fun _ _ _ h => zp_read (fun _ _ z => SN z) (fun t z => z) (fun o v z => rd_lst o v z) h
end

/-! ### list comprehensions with two fors -/
def lc2Loop (g : Tg) (tt : BD) (it1 : ID) (vs1 : List Nat) (g1 : Tg) (tt1 : BD) (te : ED) (env : En) : List PyData → List PyData → SS → Option (List PyData × SS)
  | [], acc, S => some (acc, S)
  | d :: r, acc, S => (g.set d env).bind fun env1 => (tt env1 S).bind fun b => if b.1 then (it1 env1 b.2).bind fun r1 => if notOw env1 vs1 then
      (lcLoop g1 tt1 te (wipeE env1 vs1) r1.1 acc r1.2).bind fun q => lc2Loop g tt it1 vs1 g1 tt1 te env r q.1 q.2 else none
    else lc2Loop g tt it1 vs1 g1 tt1 te env r acc b.2
def eLc2 (vs : List Nat) (it : ID) (g : Tg) (tt : BD) (it1 : ID) (vs1 : List Nat) (g1 : Tg) (tt1 : BD) (te : ED) : ED := fun env S => (it env S).bind fun r => if notOw env vs then (lc2Loop g tt it1 vs1 g1 tt1 te (wipeE env vs) r.1 [] r.2).map fun q => (.list q.1, .fr, q.2) else none
section
variable {P : Program} {w : World} {K : PySem.W.Frag} {W : Wd} {σ : L2.St} {H H' : Hp} {env : En} {S S' : SS}
def Wd.sw (W : Wd) (D : Addr) (u : HO) : Wd := { W with H0 := fun b => if b = D then some u else W.H0 b }
theorem sw_N {D : Addr} {u : HO} {a : Addr} : (W.sw D u).N a ↔ W.N a := Iff.rfl
/-- what is guarded has become another thing -/
theorem StOk.swap (ok : StOk P w K W σ H env S) {D : Addr} {u : HO} (hb : W.bad D) (nS : ¬ W.S D) (k : Kp (fun a => W.S a ∨ a = D) H H') (s : SrcOk W H' S') (e : H' D = some u) (nt : ∀ vs, u ≠ .tup vs) : StOk P w K (W.sw D u) σ H' env S' where
  len := ok.len
  base := fun b z q n => by
    have q' : (if b = D then some u else W.H0 b) = some z := q
    split at q'
    · rename_i hb; cases q'; rw [hb]; exact e
    · rename_i nb; exact k b z (fun y => y.elim n nb) (ok.base b z q' n)
  own0 := fun i b q => by
    obtain ⟨o1, o2⟩ := ok.own0 i b q
    have nb : b ≠ D := fun z => by
      obtain ⟨v, ev, _⟩ := ok.bad0 D hb
      rw [z, ev] at o1; cases o1
    refine ⟨?_, o2⟩
    show (if b = D then some u else W.H0 b) = none
    rw [if_neg nb]; exact o1
  inj := ok.inj
  osl := ok.osl
  bad0 := fun b z => by
    show ∃ u', (if b = D then some u else W.H0 b) = some u' ∧ _
    by_cases hb : b = D
    · rw [if_pos hb]; exact ⟨u, rfl, nt⟩
    · rw [if_neg hb]; exact ok.bad0 b z
  slots := fun i sl q => by
    have tr : ∀ b z, ¬ W.N b → H b = some z → ¬ (W.sw D u).N b ∧ H' b = some z := fun b z n q => ⟨n, k b z (fun y => y.elim (fun y => n (SN y)) fun y => n (.inl (y ▸ hb))) q⟩
    have h := ok.slots i sl q
    cases sl with
    | un => exact h
    | cl d => obtain ⟨v, e1, h⟩ := h; exact ⟨v, e1, h.imp tr⟩
    | ow d =>
      obtain ⟨a, e1, e2, h⟩ := h
      refine ⟨a, e1, e2, h.imp tr fun z q => k a z (fun y => y.elim (ok.own0 i a e1).2 fun y => ?_) q⟩
      obtain ⟨v, ev, _⟩ := ok.bad0 D hb
      have o1 := (ok.own0 i a e1).1
      rw [y, ev] at o1; cases o1
    | sr => exact h
  src := s
/-- a turn's thing is stored -/
theorem lc_put {g : Tg} {vs : List Nat} {H4 H1 : Hp} {env1 : En} {x : V} {d : PyData} {R : L2.St → Hp → Prop} (ok : StOk P w K W σ H env S) (hn : notOw env vs = true) (hv : ∀ i ∈ g.sl, i ∈ vs) (kp : Kp W.N H4 H) (y : Yl P w K W.N H4 H x H1 d) (e : g.set d (wipeE env vs) = some env1)
    (h : ∀ W1 σ1, W.Sim W1 → (∀ a, W1.N a ↔ W.N a) → StOk P w K W1 σ1 H1 env1 S → wipe σ1 vs = wipe σ vs → Kp W.S H H1 → R σ1 H1) : Tg.g K g x (wipe σ vs) H1 R := by
  have key : ∀ {Hx : Hp} {v : V}, StOk P w K W (wipe σ vs) Hx (wipeE env vs) S → Kp W.S H Hx → Den P w K W.N Hx v d → (∀ W1 σ1, W.Sim W1 → (∀ a, W1.N a ↔ W.N a) → StOk P w K W1 σ1 Hx env1 S → wipe σ1 vs = wipe σ vs → R σ1 Hx) → Tg.g K g v (wipe σ vs) Hx R := by
    intro Hx v okx kx hd hh
    refine Tg.run vs g d okx hd e hv fun W1 σ1 s1 n1 okw w1 => hh W1 σ1 s1 (fun a => ⟨n1.1 a, fun z => ?_⟩) okw (w1.trans ?_)
    · rcases z with z | ⟨j, z⟩ | z
      · exact .inl (by rw [s1.bad]; exact z)
      · exact .inr (.inl ⟨j, n1.2 j a (notOw_own ok hn z) z⟩)
      · exact .inr (.inr (s1.S.mpr z))
    · have ww : ∀ (l : List Nat), (∀ v ∈ l, v ∈ vs) → wipe (wipe σ l) vs = wipe σ vs := by
        intro l
        induction l with
        | nil => intro _; rfl
        | cons v l ih =>
          intro hl
          show wipe ((wipe σ l).set v none) vs = wipe σ vs
          rw [wipe_set (hl v List.mem_cons_self)]
          exact ih fun v' h' => hl v' (List.mem_cons_of_mem _ h')
      exact ww vs fun _ z => z
  have ok2 := ok.wipe hn
  rcases y with ⟨rfl, hd⟩ | ⟨T, us, es, rfl, rfl, hT, rfl, td⟩
  · exact key ok2 Kp.refl (hd.keep kp) fun W1 σ1 s1 n1 okw w1 => h W1 σ1 s1 n1 okw w1 Kp.refl
  · have okT := ok2.grow (kp_new (o := .tup us) hT) (src_new ok2.src hT)
    refine key okT (kp_new hT) (Den.tup (.inl ⟨upd_same, ok2.fresh hT⟩) ((td.keep kp).keep fun a u n q => (upd_ne (ne_of_none q hT)).trans q)) fun W1 σ1 s1 n1 okw w1 => h W1 σ1 s1 n1 okw w1 (kp_new hT)
end
section
variable {P : Program} {w : World} {K : PySem.W.Frag} {it it1 : ID} {g g1 : Tg} {tt tt1 : BD} {te : ED} {vs vs1 : List Nat}
theorem lc2_read (hv : ∀ i ∈ g.sl, i ∈ vs) (hv1 : ∀ i ∈ g1.sl, i ∈ vs1) {σ : L2.St} {H : Hp} {Q : VK} (h : tEv P w K (eLc2 vs it g tt it1 vs1 g1 tt1 te) σ H Q) :
    tLc2 (tEvI P w K Wd.S it) (g.g K) (tEvB P w K tt) (tEvI P w K Wd.N it1) (g1.g K) (tEvB P w K tt1) (tEv P w K te) vs vs1 σ H Q := by
  obtain ⟨W, env, S, ok, d, t, S', e, h⟩ := h
  obtain ⟨⟨ds, S1⟩, e1, e⟩ := Option.bind_eq_some_iff.mp e
  dsimp only at e
  split at e
  case isFalse => cases e
  rename_i hn
  obtain ⟨⟨r, S2⟩, e2, e⟩ := Option.map_eq_some_iff.mp e
  cases e
  refine ⟨W, env, S, ok, ds, S1, e1, fun J Hb kb sb wk D hD => ?_⟩
  have okb := ok.grow kb sb
  have nS : ¬ W.S D := fun z => okb.fresh hD (SN z)
  refine ⟨fun i m H => m = ds.length - i ∧ i ≤ ds.length ∧ ∃ acc Sx, LcInv P w K W Hb D acc Sx H ∧ lc2Loop g tt it1 vs1 g1 tt1 te (wipeE env vs) (ds.drop i) acc Sx = some (r, S2),
    ⟨ds.length, rfl, Nat.zero_le _, [], S1, ⟨⟨[], upd_same, .nil⟩, kp_new hD, src_new sb hD⟩, e2⟩, ?_⟩
  rintro i m Hi ⟨rfl, hi, acc, Sx, inv, e3⟩
  by_cases hl : i < ds.length
  · refine .inr ⟨wk.go i Hi inv.kp hl, ?_⟩
    rw [List.drop_eq_getElem_cons hl] at e3
    obtain ⟨env1, e4, e3⟩ := Option.bind_eq_some_iff.mp e3
    obtain ⟨⟨b, S3⟩, e5, e3⟩ := Option.bind_eq_some_iff.mp e3
    dsimp only at e3
    refine ⟨fun H2 => ∃ acc Sx, LcInv P w K W Hb D acc Sx H2 ∧ lc2Loop g tt it1 vs1 g1 tt1 te (wipeE env vs) (ds.drop (i + 1)) acc Sx = some (r, S2),
      fun H2 z => ⟨ds.length - (i + 1), by omega, rfl, hl, z⟩, fun x H1 y => ?_⟩
    refine lc_store okb hD hn hv inv (wk.yl i Hi x H1 _ inv.kp (List.getElem?_eq_getElem hl) y) e4 fun W1 σ1 u eu s1 n1 ok1 w1 k1 => ⟨w1, ?_⟩
    have sS : ∀ a, W1.S a ↔ W.S a := fun a => s1.S
    have src1 : ∀ {Hx : Hp} {Sy : SS}, SrcOk W1 Hx Sy → SrcOk W Hx Sy := fun {Hx Sy} z => by
      cases Sy with
      | none => exact s1.src.symm.trans z
      | some s0 => obtain ⟨a, c, q, rr⟩ := z; exact ⟨a, c, s1.src.symm.trans q, rr⟩
    refine tEvB.use ok1 e5 fun H3 ok3 k3 sr3 => ?_
    have k3' : Kp W.S H1 H3 := fun a u n q => k3 a u (fun z => n ((sS a).mp z)) q
    split at e3
    · rename_i hb
      rw [if_pos hb]
      obtain ⟨⟨ds1, S4⟩, e6, e3⟩ := Option.bind_eq_some_iff.mp e3
      dsimp only at e3
      split at e3
      case isFalse => cases e3
      rename_i hn1
      obtain ⟨⟨acc2, S5⟩, e7, e3⟩ := Option.bind_eq_some_iff.mp e3
      dsimp only at e3
      have bD : W1.bad D := by rw [s1.bad]; exact .inr rfl
      have nS1 : ¬ W1.S D := fun z => nS ((sS D).mp z)
      have inv3 : LcInv P w K W Hb D acc S3 H3 := inv.more (k1.trans k3') (src1 sr3) nS
      refine ⟨W1, env1, S3, ok3, ds1, S4, e6, fun J1 H4 k4 sr4 wk1 => ?_⟩
      have k4' : Kp W.S H3 H4 := fun a u n q => k4 a u (fun z => n ((sS a).mp z)) q
      have ok4 := ok3.grow k4 sr4
      refine ⟨fun j k H => k = ds1.length - j ∧ j ≤ ds1.length ∧ Kp (fun a => W1.S a ∨ a = D) H4 H ∧ ∃ acc Sx, LcInv P w K W Hb D acc Sx H ∧ SrcOk W1 H Sx ∧ lcLoop g1 tt1 te (wipeE env1 vs1) (ds1.drop j) acc Sx = some (acc2, S5),
        ⟨ds1.length, rfl, Nat.zero_le _, Kp.refl, acc, S4, inv3.more k4' (src1 sr4) nS, sr4, e7⟩, ?_⟩
      rintro j kk Hj ⟨rfl, hj, kj, accj, Sj, invj, srj, e8⟩
      have kjN : Kp W1.N H4 Hj := kj.mono fun a z => z.elim SN fun z => .inl (z ▸ bD)
      by_cases hlj : j < ds1.length
      · refine .inr ⟨wk1.go j Hj kjN hlj, ?_⟩
        rw [List.drop_eq_getElem_cons hlj] at e8
        obtain ⟨env2, e9, e8⟩ := Option.bind_eq_some_iff.mp e8
        obtain ⟨⟨b1, S6⟩, e10, e8⟩ := Option.bind_eq_some_iff.mp e8
        dsimp only at e8
        refine ⟨fun H2 => Kp (fun a => W1.S a ∨ a = D) H4 H2 ∧ ∃ acc Sx, LcInv P w K W Hb D acc Sx H2 ∧ SrcOk W1 H2 Sx ∧ lcLoop g1 tt1 te (wipeE env1 vs1) (ds1.drop (j + 1)) acc Sx = some (acc2, S5),
          fun H2 z => ⟨ds1.length - (j + 1), by omega, rfl, hlj, z⟩, fun x1 H5 y1 => ?_⟩
        obtain ⟨avj, ej, _⟩ := invj.ls
        have okj := ok4.swap bD nS1 kj srj ej fun _ z => nomatch z
        refine lc_put okj hn1 hv1 kjN (wk1.yl j Hj x1 H5 _ kjN (List.getElem?_eq_getElem hlj) y1) e9 fun W2 σ2 s2 n2 ok5 w2 k5 => ⟨w2, ?_⟩
        have sS2 : ∀ a, W2.S a ↔ W1.S a := fun a => s2.S
        have src2 : ∀ {Hx : Hp} {Sy : SS}, SrcOk W2 Hx Sy → SrcOk W1 Hx Sy := fun {Hx Sy} z => by
          cases Sy with
          | none => exact s2.src.symm.trans z
          | some s0 => obtain ⟨a, c, q, rr⟩ := z; exact ⟨a, c, s2.src.symm.trans q, rr⟩
        refine tEvB.use ok5 e10 fun H6 ok6 k6 sr6 => ?_
        have k5' : Kp W1.S Hj H5 := k5
        have k6' : Kp W1.S H5 H6 := fun a u n q => k6 a u (fun z => n ((sS2 a).mp z)) q
        have toW : ∀ {Ha Hb : Hp}, Kp W1.S Ha Hb → Kp W.S Ha Hb := fun {Ha Hb} k a u n q => k a u (fun z => n ((sS a).mp z)) q
        have toM : ∀ {Ha Hb : Hp}, Kp W1.S Ha Hb → Kp (fun a => W1.S a ∨ a = D) Ha Hb := fun {Ha Hb} k => k.mono fun _ z => .inl z
        split at e8
        · rename_i hb1
          rw [if_pos hb1]
          obtain ⟨⟨dy, ty, S7⟩, e11, e8⟩ := Option.bind_eq_some_iff.mp e8
          dsimp only at e8
          split at e8
          case isFalse => cases e8
          rename_i hz
          rw [Bool.and_eq_true] at hz
          refine tEv.use ok6 e11 fun v H7 ok7 k7 sr7 hv7 => ?_
          have k7' : Kp W1.S H6 H7 := fun a u n q => k7 a u (fun z => n ((sS2 a).mp z)) q
          have hd7 : Den P w K (fun b => W.N b ∨ b = D) H7 v dy := (hv7.clean ok6 hz.1).mono fun a z => (n2 a).mpr ((n1 a).mpr z)
          obtain ⟨avs, ea, el, inv'⟩ := invj.push okb hD ((toW (k5'.trans k6')).trans (toW k7')) (src1 (src2 sr7)) hd7
          refine ⟨avs, ea, by rw [sizeLine_eq, el]; exact of_decide_eq_true hz.2, ?_, _, S7, inv', ?_, e8⟩
          · exact kj.trans ((toM ((k5'.trans k6').trans k7')).trans fun a u n q => (upd_ne fun z : a = D => n (.inr z)).trans q)
          · exact src_upd (src2 sr7) nS1
        · rename_i hb1
          rw [if_neg hb1]
          exact ⟨kj.trans (toM (k5'.trans k6')), accj, S6, invj.more (toW (k5'.trans k6')) (src1 (src2 sr6)) nS, src2 sr6, e8⟩
      · have ej : j = ds1.length := by omega
        subst ej
        refine .inl ⟨wk1.stop _ Hj kjN (Nat.le_refl _), ?_⟩
        rw [List.drop_length] at e8
        cases e8
        exact ⟨_, _, invj, e3⟩
    · rename_i hb
      rw [if_neg hb]
      exact ⟨acc, S3, inv.more (k1.trans k3') (src1 sr3) nS, e3⟩
  · have ei : i = ds.length := by omega
    subst ei
    refine .inl ⟨wk.stop _ Hi inv.kp (Nat.le_refl _), ?_⟩
    rw [List.drop_length] at e3
    cases e3
    obtain ⟨avs, ea, ta⟩ := inv.ls
    exact h _ Hi (kb.trans inv.kp) inv.src ⟨D, rfl, ok.back kb sb hD, .lst ea ta⟩
end
section
variable {X : Cx}
/-- [elt for tg in iter if .. for tg1 in iter1 if ..] -/
theorem ee_lc2 {elt tg iter tg1 iter1 : Expr} {ifs ifs1 : List Expr} {scope : Scope} {own : List (Str × Nat)} {pos : Pos} {it it1 : ID} {g g1 : Tg} {tt tt1 : BD} {te : ED} {vs1 : List Nat} (ok : BlkOk X.N X.env.scope scope own) (hi : EIc X tg iter it)
    (hg : ∀ (s : Shared) (H : Hp) (C : Addr) (cl : List (Str × Addr)) (fp : List Addr), EG (X.blk s H scope (compEnvC scope cl C X.env) fp) tg g) (ht : ∀ (s : Shared) (H : Hp) (C : Addr) (cl : List (Str × Addr)) (fp : List Addr), ETs (X.blk s H scope (compEnvC scope cl C X.env) fp) ifs tt)
    (hi1 : ∀ (s : Shared) (H : Hp) (C : Addr) (cl : List (Str × Addr)) (fp : List Addr), EI (X.blk s H scope (compEnvC scope cl C X.env) fp) tg1 iter1 it1)
    (hg1 : ∀ (s : Shared) (H : Hp) (C : Addr) (cl : List (Str × Addr)) (fp : List Addr), EG (X.blk s H scope (compEnvC scope cl C X.env) fp) tg1 g1) (ht1 : ∀ (s : Shared) (H : Hp) (C : Addr) (cl : List (Str × Addr)) (fp : List Addr), ETs (X.blk s H scope (compEnvC scope cl C X.env) fp) ifs1 tt1)
    (he : ∀ (s : Shared) (H : Hp) (C : Addr) (cl : List (Str × Addr)) (fp : List Addr), EE (X.blk s H scope (compEnvC scope cl C X.env) fp) elt te) (hN : X.N.Nodup) (hc : X.calm = true) (hvs : ∀ i ∈ vs1, i ∈ own.map (·.2) := by decide) (hv : ∀ i ∈ g.sl, i ∈ own.map (·.2) := by decide) (hv1 : ∀ i ∈ g1.sl, i ∈ vs1 := by decide)
    (hs : ∀ x, foldedSetIterable iter X.env x = pure x := by intro _; rfl) (hs1 : ∀ env x, foldedSetIterable iter1 env x = pure x := by intro _ _; rfl) :
    EE X (.ListComp elt [⟨tg, iter, ifs, 0⟩, ⟨tg1, iter1, ifs1, 0⟩] scope pos) (eLc2 (own.map (·.2)) it g tt it1 vs1 g1 tt1 te) := pe_wk (pe_lc2 hc hN hi ok hvs hg ht hi1 hg1 ht1 he hs hs1) fun _ _ _ h => lc2_read hv hv1 h
theorem es_setLc2 {i : Nat} {y : Str} {py : Pos} {elt tg iter tg1 iter1 : Expr} {ifs ifs1 : List Expr} {scope : Scope} {own : List (Str × Nat)} {pos spos : Pos} {it it1 : ID} {g g1 : Tg} {tt tt1 : BD} {te : ED} {vs1 : List Nat} (ok : BlkOk X.N X.env.scope scope own) (hi : EIc X tg iter it)
    (hg : ∀ (s : Shared) (H : Hp) (C : Addr) (cl : List (Str × Addr)) (fp : List Addr), EG (X.blk s H scope (compEnvC scope cl C X.env) fp) tg g) (ht : ∀ (s : Shared) (H : Hp) (C : Addr) (cl : List (Str × Addr)) (fp : List Addr), ETs (X.blk s H scope (compEnvC scope cl C X.env) fp) ifs tt)
    (hi1 : ∀ (s : Shared) (H : Hp) (C : Addr) (cl : List (Str × Addr)) (fp : List Addr), EI (X.blk s H scope (compEnvC scope cl C X.env) fp) tg1 iter1 it1)
    (hg1 : ∀ (s : Shared) (H : Hp) (C : Addr) (cl : List (Str × Addr)) (fp : List Addr), EG (X.blk s H scope (compEnvC scope cl C X.env) fp) tg1 g1) (ht1 : ∀ (s : Shared) (H : Hp) (C : Addr) (cl : List (Str × Addr)) (fp : List Addr), ETs (X.blk s H scope (compEnvC scope cl C X.env) fp) ifs1 tt1)
    (he : ∀ (s : Shared) (H : Hp) (C : Addr) (cl : List (Str × Addr)) (fp : List Addr), EE (X.blk s H scope (compEnvC scope cl C X.env) fp) elt te)
    (hsw : swapsWith (.ListComp elt [⟨tg, iter, ifs, 0⟩, ⟨tg1, iter1, ifs1, 0⟩] scope pos) (some (.Name y py)) spos.line X.env = pure true) (hyl : X.env.scope.names.lookup y = some .local) (hN : X.N.Nodup) (hy : X.N[i]? = some y) (hc : X.calm = true)
    (hvs : ∀ i ∈ vs1, i ∈ own.map (·.2) := by decide) (hv : ∀ i ∈ g.sl, i ∈ own.map (·.2) := by decide) (hv1 : ∀ i ∈ g1.sl, i ∈ vs1 := by decide)
    (hs : ∀ x, foldedSetIterable iter X.env x = pure x := by intro _; rfl) (hs1 : ∀ env x, foldedSetIterable iter1 env x = pure x := by intro _ _; rfl) :
    ES X (.Assign [.Name y py] (.ListComp elt [⟨tg, iter, ifs, 0⟩, ⟨tg1, iter1, ifs1, 0⟩] scope pos) spos) (sSet i (eLc2 (own.map (·.2)) it g tt it1 vs1 g1 tt1 te)) :=
  ps_wk (ps_setLc2 hc hN hy hyl hsw hi ok hvs hg ht hi1 hg1 ht1 he hs hs1) fun D σ H h => by
    have q := set_read h
    exact lc2_read hv hv1 q
end
end Ev

namespace Ev
open PySem PySem.Spec PyProof.Rows L2

/-! ### keys as data -/
mutual
def nkO : PyData → Option NestedKey
  | .none => some .none
  | .int i => some (.num i)
  | .str x => some (.text x)
  | .tuple ds => (nkOs ds).map .tup
  | _ => none
def nkOs : List PyData → Option (List NestedKey)
  | [] => some []
  | d :: ds => (nkO d).bind fun k => (nkOs ds).map (k :: ·)
end
mutual
theorem nkO_data : ∀ {d : PyData} {k : NestedKey}, nkO d = some k → k.data = d
  | .none, k, e => by unfold nkO at e; cases e; rfl
  | .int i, k, e => by unfold nkO at e; cases e; rfl
  | .str x, k, e => by unfold nkO at e; cases e; rfl
  | .tuple ds, k, e => by
    unfold nkO at e
    obtain ⟨ks, e1, e2⟩ := Option.map_eq_some_iff.mp e
    subst e2
    show PyData.tuple (NestedKey.datas ks) = _
    rw [nkOs_data e1]
  | .bool b, k, e => by unfold nkO at e; cases e
  | .list b, k, e => by unfold nkO at e; cases e
  | .dict b, k, e => by unfold nkO at e; cases e
theorem nkOs_data : ∀ {ds : List PyData} {ks : List NestedKey}, nkOs ds = some ks → NestedKey.datas ks = ds
  | [], ks, e => by unfold nkOs at e; cases e; rfl
  | d :: ds, ks, e => by
    unfold nkOs at e
    obtain ⟨k, e1, e⟩ := Option.bind_eq_some_iff.mp e
    obtain ⟨ks', e2, e3⟩ := Option.map_eq_some_iff.mp e
    subst e3
    show k.data :: NestedKey.datas ks' = _
    rw [nkO_data e1, nkOs_data e2]
end
mutual
theorem nkO_of : ∀ k : NestedKey, nkO k.data = some k
  | .none => rfl
  | .num i => rfl
  | .text x => rfl
  | .tup ks => by
    show nkO (.tuple (NestedKey.datas ks)) = _
    unfold nkO
    rw [nkOs_of ks]
    rfl
theorem nkOs_of : ∀ ks : List NestedKey, nkOs (NestedKey.datas ks) = some ks
  | [] => rfl
  | k :: ks => by
    show nkOs (k.data :: NestedKey.datas ks) = _
    unfold nkOs
    rw [nkO_of k, nkOs_of ks]
    rfl
end
theorem nk_inj {k k' : NestedKey} (e : k.data = k'.data) : k = k' := by
  have := nkO_of k
  rw [e, nkO_of k'] at this
  cases this; rfl
/-- what stands at a key -/
def atD (kvs : List (PyData × PyData)) (k : NestedKey) : Option PyData := (kvs.find? fun p => decide (nkO p.1 = some k)).map (·.2)
def putD (kvs : List (PyData × PyData)) (k : NestedKey) (v : PyData) : List (PyData × PyData) :=
  if (atD kvs k).isSome then kvs.map fun p => if nkO p.1 = some k then (p.1, v) else p else kvs ++ [(k.data, v)]
section
variable {P : Program} {w : World} {K : PySem.W.Frag} {N : Addr → Prop} {H : Hp}
theorem ents_at {k : NestedKey} : ∀ {xs : List (NestedKey × Addr × Value)} {kvs : List (PyData × PyData)}, Ents P w K N H xs kvs →
    (atKey xs k = none ∧ atD kvs k = none) ∨ ∃ p v d, atKey xs k = some p ∧ atD kvs k = some d ∧ RelV v p.2 ∧ Den P w K N H v d
  | _, _, .nil => .inl ⟨rfl, rfl⟩
  | _, _, .cons (k := k') (b := b) (u := u) (v := v) (d := d) (xs := xs) (kvs := kvs) h1 h2 h3 h4 t => by
    unfold atKey atD
    rw [List.find?_cons, List.find?_cons]
    by_cases hk : k' = k
    · subst hk
      simp only [nkO_of, decide_true, Option.map_some]
      exact .inr ⟨_, _, _, rfl, rfl, h3, h4⟩
    · have e1 : decide (k' = k) = false := decide_eq_false hk
      have e2 : decide (nkO k'.data = some k) = false := decide_eq_false (by rw [nkO_of]; intro z; cases z; exact hk rfl)
      simp only [e1, e2]
      exact ents_at t
theorem ents_map {k : NestedKey} {u : Value} {v : V} {d : PyData} (h3 : RelV v u) (h4 : Den P w K N H v d) : ∀ {xs : List (NestedKey × Addr × Value)} {kvs : List (PyData × PyData)}, Ents P w K N H xs kvs →
    Ents P w K N H (xs.map (putAt k u)) (kvs.map fun p => if nkO p.1 = some k then (p.1, d) else p)
  | _, _, .nil => .nil
  | _, _, .cons (k := k') (b := b) (u := u') (v := v') (d := d') (xs := xs) (kvs := kvs) q1 q2 q3 q4 t => by
    rw [List.map_cons, List.map_cons]
    by_cases hk : k' = k
    · subst hk
      have e1 : putAt k' u (k', b, u') = (k', b, u) := by unfold putAt; rw [if_pos rfl]
      have e2 : (if nkO (k'.data, d').1 = some k' then ((k'.data, d').1, d) else (k'.data, d')) = (k'.data, d) := by rw [if_pos (nkO_of k')]
      rw [e1, e2]
      exact .cons q1 q2 h3 h4 (ents_map h3 h4 t)
    · have e1 : putAt k u (k', b, u') = (k', b, u') := by unfold putAt; rw [if_neg hk]
      have e2 : (if nkO (k'.data, d').1 = some k then ((k'.data, d').1, d) else (k'.data, d')) = (k'.data, d') := by
        rw [if_neg]
        show ¬ nkO k'.data = some k
        rw [nkO_of]
        intro z; cases z; exact hk rfl
      rw [e1, e2]
      exact .cons q1 q2 q3 q4 (ents_map h3 h4 t)
theorem ents_snoc {k : NestedKey} {b : Addr} {u : Value} {v : V} {d : PyData} (h1 : Den P w K N H (.ref b) k.data) (h2 : k.depth ≤ 8) (h3 : RelV v u) (h4 : Den P w K N H v d) : ∀ {xs : List (NestedKey × Addr × Value)} {kvs : List (PyData × PyData)}, Ents P w K N H xs kvs →
    Ents P w K N H (xs ++ [(k, b, u)]) (kvs ++ [(k.data, d)])
  | _, _, .nil => .cons h1 h2 h3 h4 .nil
  | _, _, .cons q1 q2 q3 q4 t => .cons q1 q2 q3 q4 (ents_snoc h1 h2 h3 h4 t)
theorem ents_put {k : NestedKey} {b : Addr} {u : Value} {v : V} {d : PyData} {xs : List (NestedKey × Addr × Value)} {kvs : List (PyData × PyData)} (h1 : Den P w K N H (.ref b) k.data) (h2 : k.depth ≤ 8) (h3 : RelV v u) (h4 : Den P w K N H v d) (t : Ents P w K N H xs kvs) :
    Ents P w K N H (storedH xs k b u) (putD kvs k d) := by
  unfold putD
  rcases ents_at (k := k) t with ⟨e1, e2⟩ | ⟨p, _, _, e1, e2, _⟩
  · rw [storedH_new e1, e2]
    exact ents_snoc h1 h2 h3 h4 t
  · rw [storedH_old e1, e2]
    exact ents_map h3 h4 t
theorem ents_len : ∀ {xs : List (NestedKey × Addr × Value)} {kvs : List (PyData × PyData)}, Ents P w K N H xs kvs → xs.length = kvs.length
  | _, _, .nil => rfl
  | _, _, .cons _ _ _ _ t => by rw [List.length_cons, List.length_cons, ents_len t]
/-- dicts of one's own kind, with keys of ints and texts -/
def kK : NestedKey → Option L2.Key
  | .num i => some (.inl i)
  | .text x => some (.inr x)
  | _ => none
theorem kK_data {k : NestedKey} {q : L2.Key} (e : kK k = some q) : k.data = kD q := by
  cases k with
  | num i => cases e; rfl
  | text x => cases e; rfl
  | none => cases e
  | tup ks => cases e
theorem nkO_kD (q : L2.Key) : ∃ k, nkO (kD q) = some k ∧ kK k = some q := by
  cases q with
  | inl i => exact ⟨_, rfl, rfl⟩
  | inr x => exact ⟨_, rfl, rfl⟩
theorem kK_inj {k k' : NestedKey} {q : L2.Key} (e : kK k = some q) (e' : kK k' = some q) : k = k' := nk_inj (by rw [kK_data e, kK_data e'])
theorem dk_at {k : NestedKey} {q : L2.Key} (hq : kK k = some q) : ∀ {es : List (L2.Key × V)} {ds : List PyData}, Dens P w K N H (es.map (·.2)) ds →
    (valV es q = none ∧ atD ((es.map fun p => kD p.1).zip ds) k = none) ∨ ∃ v d, valV es q = some v ∧ atD ((es.map fun p => kD p.1).zip ds) k = some d ∧ Den P w K N H v d
  | [], _, _ => .inl ⟨rfl, rfl⟩
  | e :: es, _, .cons (d := d) (ds := ds) h t => by
    rw [List.map_cons, List.zip_cons_cons]
    unfold valV atD
    rw [List.find?_cons, List.find?_cons]
    obtain ⟨k', e1, e2⟩ := nkO_kD e.1
    by_cases hk : e.1 = q
    · have : k' = k := kK_inj (q := q) (by rw [← hk]; exact e2) hq
      subst this
      have e3 : decide (nkO (kD e.1, d).1 = some k') = true := decide_eq_true e1
      simp only [decide_eq_true hk, e3, Option.map_some]
      exact .inr ⟨_, _, rfl, rfl, h⟩
    · have e3 : decide (nkO (kD e.1, d).1 = some k) = false := decide_eq_false (by
        show ¬ nkO (kD e.1) = some k
        rw [e1]
        intro z; cases z
        rw [hq] at e2; cases e2
        exact hk rfl)
      simp only [e3, decide_eq_false hk]
      exact dk_at hq t
theorem dk_any {q : L2.Key} : ∀ {es : List (L2.Key × V)}, (es.any fun kv => decide (kv.1 = q)) = (valV es q).isSome
  | [] => rfl
  | e :: es => by
    unfold valV
    rw [List.any_cons, List.find?_cons]
    by_cases hk : e.1 = q
    · simp [hk]
    · simp only [decide_eq_false hk, Bool.false_or]
      exact dk_any
theorem dk_map {k : NestedKey} {q : L2.Key} {v : V} {d : PyData} (hq : kK k = some q) (hd : Den P w K N H v d) : ∀ {es : List (L2.Key × V)} {ds : List PyData}, Dens P w K N H (es.map (·.2)) ds →
    ∃ ds', ((es.map fun p => kD p.1).zip ds).map (fun p => if nkO p.1 = some k then (p.1, d) else p) = (((es.map fun kv => if kv.1 = q then (kv.1, v) else kv).map fun p => kD p.1).zip ds') ∧ Dens P w K N H ((es.map fun kv => if kv.1 = q then (kv.1, v) else kv).map (·.2)) ds'
  | [], _, _ => ⟨[], rfl, .nil⟩
  | e :: es, _, .cons (d := d0) (ds := ds) h t => by
    obtain ⟨ds', e1, t'⟩ := dk_map hq hd t
    obtain ⟨k', f1, f2⟩ := nkO_kD e.1
    by_cases hk : e.1 = q
    · have : k' = k := kK_inj (q := q) (by rw [← hk]; exact f2) hq
      subst this
      refine ⟨d :: ds', ?_, ?_⟩
      · simp only [List.map_cons, List.zip_cons_cons, if_pos hk, f1, if_true]
        rw [e1]
      · simp only [List.map_cons, if_pos hk]
        exact .cons hd t'
    · refine ⟨d0 :: ds', ?_, ?_⟩
      · have e3 : ¬ nkO (kD e.1) = some k := by
          rw [f1]
          intro z; cases z
          rw [hq] at f2; cases f2
          exact hk rfl
        simp only [List.map_cons, List.zip_cons_cons, if_neg hk, if_neg e3]
        rw [e1]
      · simp only [List.map_cons, if_neg hk]
        exact .cons h t'
theorem dk_put {k : NestedKey} {q : L2.Key} {v : V} {d : PyData} (hq : kK k = some q) (hd : Den P w K N H v d) {es : List (L2.Key × V)} {ds : List PyData} (t : Dens P w K N H (es.map (·.2)) ds) :
    ∃ ds', putD ((es.map fun p => kD p.1).zip ds) k d = ((putK es q v).map fun p => kD p.1).zip ds' ∧ Dens P w K N H ((putK es q v).map (·.2)) ds' := by
  unfold putD putK
  rw [dk_any]
  rcases dk_at hq t with ⟨e1, e2⟩ | ⟨_, _, e1, e2, _⟩
  · rw [e1, e2]
    refine ⟨ds ++ [d], ?_, ?_⟩
    · show (es.map fun p => kD p.1).zip ds ++ [(k.data, d)] = ((es ++ [(q, v)]).map fun p => kD p.1).zip (ds ++ [d])
      rw [List.map_append, List.zip_append (by rw [List.length_map, ← t.length, List.length_map]), kK_data hq]
      rfl
    · show Dens P w K N H ((es ++ [(q, v)]).map (·.2)) (ds ++ [d])
      rw [List.map_append]
      exact t.snoc hd
  · rw [e1, e2]
    exact dk_map hq hd t
end

/-! ### dicts in the heap -/
section
variable (P : Program) (w : World) (K : PySem.W.Frag)
/-- at b stands the nested tuple k -/
def NKy (H : Hp) (b : Addr) (k : NestedKey) : Prop := Den P w K (fun _ => False) H (.ref b) k.data ∧ k.depth ≤ 8
/-- at a stands a raw dict -/
def RawD (H : Hp) (a : Addr) (xs : List (NestedKey × Addr × Value)) : Prop := ∃ (o : Obj) (es : Array DictEntry) (ep : Nat), H a = some (rawO a o) ∧ (a == sysModules) = false ∧ o.ExactDict ∧ o.data = .dict es ep ∧
  es.toList = xs.map (entryOfKey (nestedKind P w)) ∧ (xs.map (·.1)).Nodup ∧ xs.length ≤ sizeLine ∧ ∀ x ∈ xs, NKy P w K H x.2.1 x.1
/-- at a stands a dict; at the key y it holds o -/
def DG (H : Hp) (a : Addr) (y : V) (o : Option V) : Prop :=
  (∃ es q, Rd H a (.dK es) ∧ y = kV q ∧ o = valV es q) ∨ (∃ xs b k, RawD P w K H a xs ∧ y = .ref b ∧ NKy P w K H b k ∧ RelO o ((atKey xs k).map (·.2))) ∨
  (∃ q, RawD P w K H a [] ∧ y = kV q ∧ o = none) ∨ ∃ b k, Rd H a (.dK []) ∧ y = .ref b ∧ NKy P w K H b k ∧ o = none
end
section
variable {X : Cx} {pins : List (Addr × Obj)} {σ : L2.St} {H : Hp} {s : Shared} {a b : Addr} {y v : V} {u r : Value} {o : Option V} {A : Around} {E : Value → Shared → Prop} {k : NestedKey} {xs : List (NestedKey × Addr × Value)}
mutual
theorem den_is (I : Inv X pins σ H s) : ∀ (k : NestedKey) {v : V} {u : Value}, Den X.prog X.w X.K (fun _ => False) H v k.data → RelV v u → NestedIs s.heap k u
  | .none, v, u, h, r => by
    have h : Den X.prog X.w X.K (fun _ => False) H v .none := h
    cases h
    obtain rfl : u = .none := r
    exact .none
  | .num i, v, u, h, r => by
    have h : Den X.prog X.w X.K (fun _ => False) H v (.int i) := h
    cases h
    obtain ⟨t, rfl⟩ := (show ∃ t, u = Value.int i t from r)
    exact .int i t
  | .text x, v, u, h, r => by
    have h : Den X.prog X.w X.K (fun _ => False) H v (.str x) := h
    cases h
    obtain ⟨t, rfl⟩ := (show ∃ t, u = Value.str x t from r)
    exact .text x t
  | .tup ks, v, u, h, r => by
    have h : Den X.prog X.w X.K (fun _ => False) H v (.tuple (NestedKey.datas ks)) := h
    cases h with
    | tup h0 t =>
      obtain rfl : u = .ref _ := r
      obtain ⟨its, rv, ⟨ob, h1, h2, n, h3⟩, _⟩ := I.tuple (sqT_of (N := fun _ => False) h0)
      exact .tup h1 h2 h3 (by simpa using dens_is I ks t rv)
theorem dens_is (I : Inv X pins σ H s) : ∀ (ks : List NestedKey) {vs : List V} {us : List Value}, Dens X.prog X.w X.K (fun _ => False) H vs (NestedKey.datas ks) → Vals vs us → NestedAll s.heap ks us
  | [], vs, us, h, r => by
    have h : Dens X.prog X.w X.K (fun _ => False) H vs [] := h
    cases h
    cases r
    exact .nil
  | k :: ks, vs, us, h, r => by
    have h : Dens X.prog X.w X.K (fun _ => False) H vs (k.data :: NestedKey.datas ks) := h
    cases h with
    | cons h t =>
      cases r with
      | cons r rr => exact .cons (den_is I k h r) (dens_is I ks t rr)
end
theorem nky_is (I : Inv X pins σ H s) (h : NKy X.prog X.w X.K H b k) : (nestedKind X.prog X.w).is s.heap k b := ⟨den_is I k h.1 rfl, h.2⟩
theorem raw_of (I : Inv X pins σ H s) (h : RawD X.prog X.w X.K H a xs) : s.heap.DictOfH (nestedKind X.prog X.w) a xs ∧ (a == sysModules) = false ∧ xs.length ≤ sizeLine := by
  obtain ⟨o, es, ep, h1, h2, h3, h4, h5, h6, h7, h8⟩ := h
  obtain ⟨g1, _⟩ := (show ObjOk X.prog X.w H s.heap a (rawO a o) from I.hok a _ h1)
  exact ⟨⟨o, es, ep, g1, h3, h4, h5, fun x hx => nky_is I (h8 x hx), h6⟩, h2, h7⟩
theorem raw_nil {h : Heap} (x : h.DictOfH (nestedKind X.prog X.w) a []) : h.DictOf (mixKind X.prog X.w) a [] := by
  obtain ⟨o, es, ep, g1, g2, g3, g4, _, _⟩ := x
  have e : es.toList = [] := g4
  exact ⟨o, es, ep, g1, g2, g3, fun i hi => (by simp_all), by rw [e]; exact .nil, .nil⟩
theorem nil_raw {h : Heap} (x : h.DictOf (mixKind X.prog X.w) a []) : h.DictOfH (nestedKind X.prog X.w) a [] := by
  obtain ⟨o, es, ep, g1, g2, g3, _, g4, _⟩ := x
  have e : es.toList = [] := by
    generalize es.toList = l at g4
    cases g4; rfl
  exact ⟨o, es, ep, g1, g2, g3, e, fun x hx => (nomatch hx), .nil⟩
theorem room8 {A : Around} (hu : A.units + 64 < cLine) : (nestedKind X.prog X.w).room A.in1 := by
  show A.in1.units + 8 < cLine
  have : A.in1.units = A.units + 1 := rfl
  omega
theorem g_in (hu : A.units + 64 < cLine) {Q : Value → Shared → Prop} (I : Inv X pins σ H s) (g : DG X.prog X.w X.K H a y o) (ry : RelV y u) (h : ∀ s', Inv X pins σ H s' → Q (.bool o.isSome) s') : wpAny (model X.prog X.w) A (compareOp .In u (.ref a)) Q E s := by
  rcases g with ⟨es, q, e, rfl, rfl⟩ | ⟨xs, b, k, e, rfl, hb, ro⟩ | ⟨q, e, rfl, rfl⟩ | ⟨b, k, e, rfl, hb, rfl⟩
  · exact d_in (by omega) I (.inl ⟨es, q, e, rfl, rfl⟩) ry h
  · cases (show u = Value.ref b from ry)
    obtain ⟨dd, hd, _⟩ := raw_of I e
    refine wpAny_in_heap (room8 hu) (nky_is I hb) hd dd ?_
    rw [← Option.isSome_map (f := fun p : Addr × Value => p.2), ← ro.isSome_eq]
    exact h _ (I.tok _)
  · obtain ⟨dd, hd, _⟩ := raw_of I e
    exact wpAny_in_of (kV_is ry) hd (raw_nil dd).mapOf (h _ (I.tok _))
  · cases (show u = Value.ref b from ry)
    obtain ⟨z, hd, vs, rel, dd⟩ := dk_rd I.hok e
    cases rel
    exact wpAny_in_heap (room8 hu) (nky_is I hb) hd (nil_raw dd) (h _ (I.tok _))
theorem g_notIn (hu : A.units + 64 < cLine) {Q : Value → Shared → Prop} (I : Inv X pins σ H s) (g : DG X.prog X.w X.K H a y o) (ry : RelV y u) (h : ∀ s', Inv X pins σ H s' → Q (.bool (!o.isSome)) s') : wpAny (model X.prog X.w) A (compareOp .NotIn u (.ref a)) Q E s := by
  rcases g with ⟨es, q, e, rfl, rfl⟩ | ⟨xs, b, k, e, rfl, hb, ro⟩ | ⟨q, e, rfl, rfl⟩ | ⟨b, k, e, rfl, hb, rfl⟩
  · exact d_notIn (by omega) I (.inl ⟨es, q, e, rfl, rfl⟩) ry h
  · cases (show u = Value.ref b from ry)
    obtain ⟨dd, hd, _⟩ := raw_of I e
    refine wpAny_notIn_heap (room8 hu) (nky_is I hb) hd dd ?_
    rw [← Option.isSome_map (f := fun p : Addr × Value => p.2), ← ro.isSome_eq]
    exact h _ (I.tok _)
  · obtain ⟨dd, hd, _⟩ := raw_of I e
    exact wpAny_notIn_of (kV_is ry) hd (raw_nil dd).mapOf (h _ (I.tok _))
  · cases (show u = Value.ref b from ry)
    obtain ⟨z, hd, vs, rel, dd⟩ := dk_rd I.hok e
    cases rel
    exact wpAny_notIn_heap (room8 hu) (nky_is I hb) hd (nil_raw dd) (h _ (I.tok _))
theorem g_item (hu : A.units + 64 < cLine) {Q : Value → Shared → Prop} (I : Inv X pins σ H s) (g : DG X.prog X.w X.K H a y (some v)) (ry : RelV y u) (h : ∀ w' s', Inv X pins σ H s' → RelV v w' → Q w' s') : wpAny (model X.prog X.w) A (getItem (.ref a) u) Q E s := by
  rcases g with ⟨es, q, e, rfl, ro⟩ | ⟨xs, b, k, e, rfl, hb, ro⟩ | ⟨q, e, rfl, ro⟩ | ⟨b, k, e, rfl, hb, ro⟩
  · exact d_getItem (by omega) I (.inl ⟨es, q, e, rfl, ro⟩) ry h
  · cases (show u = Value.ref b from ry)
    obtain ⟨dd, hd, _⟩ := raw_of I e
    obtain ⟨w', hw, rw'⟩ := ro.some_of
    obtain ⟨p, hp, hp2⟩ := Option.map_eq_some_iff.mp hw
    refine wpAny_getItem_heap (room8 hu) (nky_is I hb) dd hp ?_
    rw [hp2]
    exact h w' _ (I.tok _) rw'
  · cases ro
  · cases ro
theorem g_type (I : Inv X pins σ H s) (g : DG X.prog X.w X.K H a y o) : s.TypeIs (.ref a) "dict" ∧ (∀ b, Value.ref a = .ref b → ∃ ob, s.heap.get? b = some ob ∧ ob.dict = none) := by
  have k1 : ∀ {es : List (L2.Key × V)}, Rd H a (.dK es) → s.TypeIs (.ref a) "dict" ∧ (∀ b, Value.ref a = .ref b → ∃ ob, s.heap.get? b = some ob ∧ ob.dict = none) := fun e => let ⟨q1, q2, _⟩ := isD_at I (.inl ⟨_, e⟩); ⟨q1, q2⟩
  have k2 : ∀ {xs : List (NestedKey × Addr × Value)}, RawD X.prog X.w X.K H a xs → s.TypeIs (.ref a) "dict" ∧ (∀ b, Value.ref a = .ref b → ∃ ob, s.heap.get? b = some ob ∧ ob.dict = none) := fun e => by
    obtain ⟨dd, hd, _⟩ := raw_of I e
    refine ⟨dd.typeIs, fun b q => ?_⟩
    cases q
    obtain ⟨ob, _, _, h1, h2, _⟩ := dd
    exact ⟨ob, h1, h2.2.1⟩
  rcases g with ⟨es, q, e, _⟩ | ⟨xs, b, k, e, _⟩ | ⟨q, e, _⟩ | ⟨b, k, e, _⟩
  · exact k1 e
  · exact k2 e
  · exact k2 e
  · exact k1 e
theorem g_get2 (hu : A.units + 64 < cLine) {d : V} {Q : Value → Shared → Prop} (I : Inv X pins σ H s) (g : DG X.prog X.w X.K H a y o) (ry : RelV y u) (rd : RelV d r) (h : ∀ w' s', Inv X pins σ H s' → RelV (o.getD d) w' → Q w' s') :
    wpAny (model X.prog X.w) A (call (.builtin "dict.get") [.ref a, u, r]) Q E s := by
  rcases g with ⟨es, q, e, rfl, rfl⟩ | ⟨xs, b, k, e, rfl, hb, ro⟩ | ⟨q, e, rfl, rfl⟩ | ⟨b, k, e, rfl, hb, rfl⟩
  · exact d_get2 (by omega) I (.inl ⟨es, q, e, rfl, rfl⟩) ry rd h
  · cases (show u = Value.ref b from ry)
    obtain ⟨dd, hd, _⟩ := raw_of I e
    exact call_meetsIn PySem.F.slot_dict_get dd.typeIs PySem.F.entry_dict_get (PySem.F.args_dict_get_3 _ _ _) (meetsH_dict_get_default (nestedKind X.prog X.w) a b hd r) ⟨room8 hu, k, xs, nky_is I hb, dd, h _ _ (I.tok _) (ro.getD rd)⟩
  · obtain ⟨dd, hd, _⟩ := raw_of I e
    have dm := raw_nil dd
    exact call_meetsIn PySem.F.slot_dict_get dm.typeIs PySem.F.entry_dict_get (PySem.F.args_dict_get_3 _ _ _) (meets_dict_get_default (mixKind X.prog X.w) a (kV_is ry) hd r) ⟨_, dm.mapOf, h _ _ (I.tok _) rd⟩
  · cases (show u = Value.ref b from ry)
    obtain ⟨z, hd, vs, rel, dd⟩ := dk_rd I.hok e
    cases rel
    have dm := nil_raw dd
    exact call_meetsIn PySem.F.slot_dict_get dm.typeIs PySem.F.entry_dict_get (PySem.F.args_dict_get_3 _ _ _) (meetsH_dict_get_default (nestedKind X.prog X.w) a b hd r) ⟨room8 hu, k, [], nky_is I hb, dm, h _ _ (I.tok _) rd⟩
theorem g_get1 (hu : A.units + 64 < cLine) {Q : Value → Shared → Prop} (I : Inv X pins σ H s) (g : DG X.prog X.w X.K H a y o) (ry : RelV y u) (h : ∀ w' s', Inv X pins σ H s' → RelV (o.getD .non) w' → Q w' s') :
    wpAny (model X.prog X.w) A (call (.builtin "dict.get") [.ref a, u]) Q E s := by
  rcases g with ⟨es, q, e, rfl, rfl⟩ | ⟨xs, b, k, e, rfl, hb, ro⟩ | ⟨q, e, rfl, rfl⟩ | ⟨b, k, e, rfl, hb, rfl⟩
  · exact d_get1 (by omega) I (.inl ⟨es, q, e, rfl, rfl⟩) ry h
  · cases (show u = Value.ref b from ry)
    obtain ⟨dd, hd, _⟩ := raw_of I e
    exact call_meetsIn PySem.F.slot_dict_get dd.typeIs PySem.F.entry_dict_get (PySem.F.args_dict_get_2 _ _) (meetsH_dict_get (nestedKind X.prog X.w) a b hd) ⟨room8 hu, k, xs, nky_is I hb, dd, h _ _ (I.tok _) (ro.getD (show RelV .non Value.none from rfl))⟩
  · obtain ⟨dd, hd, _⟩ := raw_of I e
    have dm := raw_nil dd
    exact call_meetsIn PySem.F.slot_dict_get dm.typeIs PySem.F.entry_dict_get (PySem.F.args_dict_get_2 _ _) (meets_dict_get (mixKind X.prog X.w) a (kV_is ry) hd) ⟨_, dm.mapOf, h _ _ (I.tok _) (show RelV .non Value.none from rfl)⟩
  · cases (show u = Value.ref b from ry)
    obtain ⟨z, hd, vs, rel, dd⟩ := dk_rd I.hok e
    cases rel
    have dm := nil_raw dd
    exact call_meetsIn PySem.F.slot_dict_get dm.typeIs PySem.F.entry_dict_get (PySem.F.args_dict_get_2 _ _) (meetsH_dict_get (nestedKind X.prog X.w) a b hd) ⟨room8 hu, k, [], nky_is I hb, dm, h _ _ (I.tok _) (show RelV .non Value.none from rfl)⟩
/-- a dict takes keys of one kind -/
def kindOk (kvs : List (PyData × PyData)) (k : NestedKey) : Bool := match kvs with
  | [] => true
  | p :: _ => match nkO p.1 with
    | some i => (kK i).isSome == (kK k).isSome
    | none => false
def keyOk (k : NestedKey) : Bool := match k with
  | .num _ => true
  | .text _ => true
  | .tup _ => decide (k.depth ≤ 8)
  | .none => false
theorem key_V {N : Addr → Prop} {q : L2.Key} (h : Den X.prog X.w X.K N H y k.data) (hq : kK k = some q) : y = kV q := by
  cases k with
  | num i => cases hq; cases (show Den X.prog X.w X.K N H y (.int i) from h); rfl
  | text i => cases hq; cases (show Den X.prog X.w X.K N H y (.str i) from h); rfl
  | none => cases hq
  | tup ks => cases hq
theorem key_T {N : Addr → Prop} (h : Den X.prog X.w X.K N H y k.data) (hk : keyOk k = true) (hq : kK k = none) : ∃ b, y = .ref b ∧ NKy X.prog X.w X.K H b k := by
  cases k with
  | num i => cases hq
  | text i => cases hq
  | none => cases hk
  | tup ks =>
    cases (show Den X.prog X.w X.K N H y (.tuple (NestedKey.datas ks)) from h) with
    | tup h0 t => exact ⟨_, rfl, (Den.tup h0 t : Den X.prog X.w X.K N H _ _).mono fun _ z => z.elim, of_decide_eq_true hk⟩
theorem ents_nky {N : Addr → Prop} : ∀ {xs : List (NestedKey × Addr × Value)} {kvs : List (PyData × PyData)}, Ents X.prog X.w X.K N H xs kvs → ∀ x ∈ xs, NKy X.prog X.w X.K H x.2.1 x.1
  | _, _, .nil, x, hx => nomatch hx
  | _, _, .cons h1 h2 h3 h4 t, x, hx => by
    rcases List.mem_cons.mp hx with rfl | hx
    · exact ⟨h1.mono fun _ z => z.elim, h2⟩
    · exact ents_nky t x hx
theorem kind_dK {es : List (L2.Key × V)} {ds : List PyData} (hl : es.length = ds.length) (h : kindOk ((es.map fun p => kD p.1).zip ds) k = true) (hq : kK k = none) : es = [] := by
  cases es with
  | nil => rfl
  | cons e es =>
    cases ds with
    | nil => cases hl
    | cons d ds =>
      obtain ⟨k', e1, e2⟩ := nkO_kD e.1
      have h : (match nkO (kD e.1) with | some i => (kK i).isSome == (kK k).isSome | none => false) = true := h
      rw [e1, hq] at h
      dsimp only at h
      rw [e2] at h
      cases h
theorem kind_dN {N : Addr → Prop} {xs : List (NestedKey × Addr × Value)} {kvs : List (PyData × PyData)} (t : Ents X.prog X.w X.K N H xs kvs) {q : L2.Key} (h : kindOk kvs k = true) (hq : kK k = some q) : xs = [] ∧ kvs = [] := by
  cases t with
  | nil => exact ⟨rfl, rfl⟩
  | @cons k' b u v d xs kvs h1 h2 h3 h4 t =>
    have h : (match nkO k'.data with | some i => (kK i).isSome == (kK k).isSome | none => false) = true := h
    rw [nkO_of, hq] at h
    dsimp only at h
    cases k' with
    | tup ks => cases h
    | none => cases h
    | num i => cases (show Den X.prog X.w X.K N H (.ref b) (.int i) from h1)
    | text i => cases (show Den X.prog X.w X.K N H (.ref b) (.str i) from h1)
theorem same_refl (a : Addr) (h : Heap) : Heap.SameBut a h h := ⟨rfl, fun _ _ => rfl⟩
theorem ob_mut {N : Addr → Prop} {d : PyData} (ob : Ob X.prog X.w X.K N H a d) : Mut (H a) := by
  cases ob with
  | lst e t => rw [e]; exact True.intro
  | dK e t => rw [e]; exact True.intro
  | dN e y e1 e2 e3 e4 e5 t => rw [e]; exact True.intro
/-- a raw dict is replaced -/
theorem raw_write {h' : Heap} {t' : Nat} (I : Inv X pins σ H s) (mu : Mut (H a)) (hs : Heap.SameBut a s.heap h') (dd : h'.DictOfH (nestedKind X.prog X.w) a xs) (hd : (a == sysModules) = false) (z : xs.length ≤ sizeLine) :
    ∃ ho, Inv X pins σ (upd H a ho) { s with heap := h', toks := t' } ∧ ∀ {N : Addr → Prop} {kvs : List (PyData × PyData)}, N a → Ents X.prog X.w X.K N H xs kvs → Ob X.prog X.w X.K N (upd H a ho) a (.dict kvs) := by
  obtain ⟨o, es, ep, g1, g2, g3, g4, _, g5⟩ := dd
  refine ⟨rawO a o, d_write I mu hs ⟨o, g1⟩ ⟨g1, ⟨o, g1⟩, fun h1 h2 q1 q2 => q2 o q1⟩, fun {N kvs} na t => .dN upd_same hd g2 g3 g4 g5 z (t.imp fun b u n q => ⟨n, (upd_ne fun w : b = a => n (by rw [w]; exact na)).trans q⟩)⟩
theorem putK_le (es : List (L2.Key × V)) (q : L2.Key) (v : V) : (putK es q v).length ≤ es.length + 1 := by
  unfold putK
  split
  · rw [List.length_map]; omega
  · rw [List.length_append]; exact Nat.le_refl _
theorem storedH_le (xs : List (NestedKey × Addr × Value)) (k : NestedKey) (b : Addr) (u : Value) : (storedH xs k b u).length ≤ xs.length + 1 := by
  unfold storedH
  split
  · rw [List.length_map]; omega
  · rw [List.length_append]; exact Nat.le_refl _
/-- d[y] = v -/
theorem g_set {N : Addr → Prop} {d : PyData} {kvs : List (PyData × PyData)} (hu : A.units + 64 < cLine) {Q : Unit → Shared → Prop} (I : Inv X pins σ H s) (ob : Ob X.prog X.w X.K N H a (.dict kvs)) (hy : Den X.prog X.w X.K N H y k.data) (hk : keyOk k = true) (hv : Den X.prog X.w X.K N H v d) (sz : kvs.length < 16777216)
    (kind : kindOk kvs k = true) (na : N a) (ry : RelV y u) (rv : RelV v r)
    (h : ∀ s' ho, Inv X pins σ (upd H a ho) s' → Ob X.prog X.w X.K N (upd H a ho) a (.dict (putD kvs k d)) → Q () s') : wpAny (model X.prog X.w) A (setItem (.ref a) u r) Q E s := by
  have kp : ∀ {ho : HO} {us : List V} {ds : List PyData}, Dens X.prog X.w X.K N H us ds → Dens X.prog X.w X.K N (upd H a ho) us ds := fun t => t.keep fun b u n q => (upd_ne fun w : b = a => n (by rw [w]; exact na)).trans q
  have mu := ob_mut ob
  cases ob with
  | @dK es ds e t =>
    have hl : es.length = ds.length := by rw [← t.length, List.length_map]
    have sz2 : es.length < sizeLine := by
      rw [List.length_zip, List.length_map, ← hl, Nat.min_self] at sz
      rw [sizeLine_eq]; exact sz
    cases hq : kK k with
    | some q =>
      obtain rfl := key_V hy hq
      obtain ⟨ds', e1, t'⟩ := dk_put hq hv t
      refine d_setItem (by omega) I (DPut.k e sz2) ry rv fun s' I' => h s' _ I' ?_
      rw [e1]
      exact .dK upd_same (kp t')
    | none =>
      obtain rfl := kind_dK hl kind hq
      obtain ⟨b, rfl, hb⟩ := key_T hy hk hq
      cases (show u = Value.ref b from ry)
      obtain ⟨z, hd, vs, rel, dd⟩ := dk_of I.hok e
      cases rel
      have e0 : ((([] : List (L2.Key × V)).map fun p => kD p.1).zip ds) = [] := rfl
      refine wpAny_setItem_heap (hsz := Nat.zero_le _) (room8 hu) (nky_is I hb) (nil_raw dd) fun h' dd' hs => ?_
      obtain ⟨ho, I', mk⟩ := raw_write (t' := s.toks + (nestedKind X.prog X.w).draws k) I mu hs dd' hd (Nat.le_trans (storedH_le _ _ _ _) (by rw [sizeLine_eq]; decide))
      exact h _ ho I' (mk na (ents_put hy hb.2 rv hv .nil))
  | @dN o es ep xs _ e y e1 e2 e3 e4 e5 t =>
    have raw : RawD X.prog X.w X.K H a xs := ⟨o, es, ep, e, y, e1, e2, e3, e4, e5, ents_nky t⟩
    obtain ⟨dd, hd, z⟩ := raw_of I raw
    cases hq : kK k with
    | some q =>
      obtain rfl := key_V hy hq
      obtain ⟨rfl, rfl⟩ := kind_dN t kind hq
      have I2 : Inv X pins σ (upd H a (.dK [])) s := d_write (t' := s.toks) I mu (same_refl a s.heap) (let ⟨o, _, _, g, _⟩ := dd; ⟨o, g⟩) (dk_new (Nat.zero_le _) hd .nil (raw_nil dd))
      refine d_setItem (by omega) I2 (DPut.k (k := q) (v := v) upd_same (by rw [sizeLine_eq]; decide)) ry rv fun s' I' => h s' (.dK (putK [] q v)) (by rw [upd_upd] at I'; exact I') ?_
      obtain ⟨ds', f1, t'⟩ := dk_put (es := []) (ds := []) hq hv .nil
      have f1 : putD [] k d = ((putK [] q v).map fun p => kD p.1).zip ds' := f1
      rw [f1]
      exact .dK upd_same (kp t')
    | none =>
      obtain ⟨b, rfl, hb⟩ := key_T hy hk hq
      cases (show u = Value.ref b from ry)
      refine wpAny_setItem_heap (hsz := z) (room8 hu) (nky_is I hb) dd fun h' dd' hs => ?_
      have hx : xs.length = kvs.length := ents_len t
      obtain ⟨ho, I', mk⟩ := raw_write (t' := s.toks + (nestedKind X.prog X.w).draws k) I mu hs dd' hd (Nat.le_trans (storedH_le _ _ _ _) (by rw [sizeLine_eq]; omega))
      exact h _ ho I' (mk na (ents_put hy hb.2 rv hv t))
end
end Ev

namespace Ev
open PySem PySem.Spec PyProof.Rows L2

/-! ### dicts: reading -/
/-- a dict that is read: where it lies, and what it holds -/
def DCn (P : Program) (w : World) (K : PySem.W.Frag) (N : Addr → Prop) (H : Hp) (a : Addr) (kvs : List (PyData × PyData)) : Prop :=
  (∃ es ds, Rd H a (.dK es) ∧ Dens P w K N H (es.map (·.2)) ds ∧ kvs = (es.map fun p => kD p.1).zip ds) ∨ ∃ xs, RawD P w K H a xs ∧ Ents P w K N H xs kvs
section
variable {P : Program} {w : World} {K : PySem.W.Frag} {W : Wd} {N : Addr → Prop} {H H' : Hp} {v y : V} {t : Tag} {kvs : List (PyData × PyData)} {a : Addr} {k : NestedKey}
theorem ents_nky' : ∀ {xs : List (NestedKey × Addr × Value)} {kvs : List (PyData × PyData)}, Ents P w K N H xs kvs → ∀ x ∈ xs, NKy P w K H x.2.1 x.1
  | _, _, .nil, x, hx => nomatch hx
  | _, _, .cons h1 h2 h3 h4 t, x, hx => by
    rcases List.mem_cons.mp hx with rfl | hx
    · exact ⟨h1.mono fun _ z => z.elim, h2⟩
    · exact ents_nky' t x hx
theorem Ents.mono' {N' : Addr → Prop} (hn : ∀ a, N' a → N a) {xs : List (NestedKey × Addr × Value)} (h : Ents P w K N H xs kvs) : Ents P w K N' H xs kvs := h.imp fun a u n e => ⟨fun z => n (hn a z), e⟩
theorem ob_cn {d : PyData} (ob : Ob P w K N H a d) (e : d = .dict kvs) {N' : Addr → Prop} (hn : ∀ a, N' a → N a) : DCn P w K N' H a kvs := by
  cases ob with
  | lst h t => cases e
  | dK h t => cases e; exact .inl ⟨_, _, .inl h, t.mono hn, rfl⟩
  | dN h y e1 e2 e3 e4 e5 t => cases e; exact .inr ⟨_, ⟨_, _, _, h, y, e1, e2, e3, e4, e5, ents_nky' t⟩, t.mono' hn⟩
theorem VOk.dct (h : VOk P w K W H H' v (.dict kvs) t) (r : t.rd = true) : ∃ a, v = .ref a ∧ DCn P w K W.N H' a kvs := by
  cases t with
  | cl =>
    cases h with
    | dK h n t => exact ⟨_, rfl, .inl ⟨_, _, h, t, rfl⟩⟩
    | dN h n y e1 e2 e3 e4 e5 t => exact ⟨_, rfl, .inr ⟨_, ⟨_, _, _, h, y, e1, e2, e3, e4, e5, ents_nky' t⟩, t⟩⟩
  | fr =>
    obtain ⟨a, e, _, ob⟩ := h
    exact ⟨a, e, ob_cn ob rfl fun _ z => .inl z⟩
  | tp i =>
    obtain ⟨a, _, e, ob⟩ := h
    exact ⟨a, e, ob_cn ob rfl fun _ z => z⟩
  | sr => cases r
theorem key_V' {q : L2.Key} (h : Den P w K N H y k.data) (hq : kK k = some q) : y = kV q := by
  cases k with
  | num i => cases hq; cases (show Den P w K N H y (.int i) from h); rfl
  | text i => cases hq; cases (show Den P w K N H y (.str i) from h); rfl
  | none => cases hq
  | tup ks => cases hq
theorem key_T' (h : Den P w K N H y k.data) (hk : keyOk k = true) (hq : kK k = none) : ∃ b, y = .ref b ∧ NKy P w K H b k := by
  cases k with
  | num i => cases hq
  | text i => cases hq
  | none => cases hk
  | tup ks =>
    cases (show Den P w K N H y (.tuple (NestedKey.datas ks)) from h) with
    | tup h0 t => exact ⟨_, rfl, (Den.tup h0 t : Den P w K N H _ _).mono fun _ z => z.elim, of_decide_eq_true hk⟩
/-- what is found at a key -/
theorem dg_of {N' : Addr → Prop} (c : DCn P w K N H a kvs) (hy : Den P w K N' H y k.data) (hk : keyOk k = true) (kind : kindOk kvs k = true) :
    (atD kvs k = none ∧ DG P w K H a y none) ∨ ∃ z d, atD kvs k = some d ∧ Den P w K N H z d ∧ DG P w K H a y (some z) := by
  rcases c with ⟨es, ds, e, t, rfl⟩ | ⟨xs, raw, t⟩
  · cases hq : kK k with
    | some q =>
      obtain rfl := key_V' hy hq
      rcases dk_at hq t with ⟨e1, e2⟩ | ⟨z, d, e1, e2, e3⟩
      · exact .inl ⟨e2, .inl ⟨es, q, e, rfl, e1.symm⟩⟩
      · exact .inr ⟨z, d, e2, e3, .inl ⟨es, q, e, rfl, e1.symm⟩⟩
    | none =>
      have hl : es.length = ds.length := by rw [← t.length, List.length_map]
      have : es = [] := by
        cases es with
        | nil => rfl
        | cons p0 es =>
          cases ds with
          | nil => cases hl
          | cons d ds =>
            obtain ⟨k', e1, e2⟩ := nkO_kD p0.1
            have h : (match nkO (kD p0.1) with | some i => (kK i).isSome == (kK k).isSome | none => false) = true := kind
            rw [e1, hq] at h
            dsimp only at h
            rw [e2] at h
            cases h
      subst this
      obtain ⟨b, rfl, hb⟩ := key_T' hy hk hq
      exact .inl ⟨rfl, .inr (.inr (.inr ⟨b, k, e, rfl, hb, rfl⟩))⟩
  · cases hq : kK k with
    | some q =>
      obtain rfl := key_V' hy hq
      have : xs = [] ∧ kvs = [] := by
        cases t with
        | nil => exact ⟨rfl, rfl⟩
        | @cons k' b u v d xs kvs h1 h2 h3 h4 t =>
          have h : (match nkO k'.data with | some i => (kK i).isSome == (kK k).isSome | none => false) = true := kind
          rw [nkO_of, hq] at h
          dsimp only at h
          cases k' with
          | tup ks => cases h
          | none => cases h
          | num i => cases (show Den P w K N H (.ref b) (.int i) from h1)
          | text i => cases (show Den P w K N H (.ref b) (.str i) from h1)
      obtain ⟨rfl, rfl⟩ := this
      exact .inl ⟨rfl, .inr (.inr (.inl ⟨q, raw, rfl, rfl⟩))⟩
    | none =>
      obtain ⟨b, rfl, hb⟩ := key_T' hy hk hq
      rcases ents_at (k := k) t with ⟨e1, e2⟩ | ⟨p, z, d, e1, e2, e3, e4⟩
      · exact .inl ⟨e2, .inr (.inl ⟨xs, b, k, raw, rfl, hb, by rw [e1]; exact trivial⟩)⟩
      · exact .inr ⟨z, d, e2, e4, .inr (.inl ⟨xs, b, k, raw, rfl, hb, by rw [e1]; exact e3⟩)⟩
end
/-- the entry at a key, where that can be asked -/
def lookD (kvs : List (PyData × PyData)) (d : PyData) : Option (Option PyData) := (nkO d).bind fun k => if keyOk k && kindOk kvs k then some (atD kvs k) else none
theorem lookD_of {P : Program} {w : World} {K : PySem.W.Frag} {N N' : Addr → Prop} {H : Hp} {a : Addr} {y : V} {d : PyData} {kvs : List (PyData × PyData)} {o : Option PyData} (c : DCn P w K N H a kvs) (hy : Den P w K N' H y d) (e : lookD kvs d = some o) :
    (o = none ∧ DG P w K H a y none) ∨ ∃ z r, o = some r ∧ Den P w K N H z r ∧ DG P w K H a y (some z) := by
  obtain ⟨k, e1, e⟩ := Option.bind_eq_some_iff.mp e
  split at e
  case isFalse => cases e
  rename_i hz
  rw [Bool.and_eq_true] at hz
  cases e
  rw [← nkO_data e1] at hy
  rcases dg_of c hy hz.1 hz.2 with ⟨q1, q2⟩ | ⟨z, r, q1, q2, q3⟩
  · exact .inl ⟨q1, q2⟩
  · exact .inr ⟨z, r, q1, q2, q3⟩
def oInA : Opr := fun d1 t1 d2 t2 => match d2 with
  | .dict kvs => (lookD kvs d1).map fun o => (.bool o.isSome, .cl)
  | _ => oIn d1 t1 d2 t2
def oNotInA : Opr := fun d1 t1 d2 t2 => match d2 with
  | .dict kvs => (lookD kvs d1).map fun o => (.bool (!o.isSome), .cl)
  | _ => oNotIn d1 t1 d2 t2
def oIxA : Opr := fun d1 t1 d2 t2 => match d1 with
  | .dict kvs => (lookD kvs d2).bind fun o => o.map fun d => (d, .cl)
  | _ => oIx d1 t1 d2 t2
def dGet1 : Opr := fun d1 _ d2 _ => match d1 with
  | .dict kvs => (lookD kvs d2).map fun o => (o.getD .none, .cl)
  | _ => none
section
variable {X : Cx} {a b c : Expr} {ma mb mc : ED} {pos apos cpos : Pos}
theorem op_oInA (hu : X.A.units + 65 < cLine) : OpR X (compareOp .In) (rOp X.prog X.w X.K oInA) := by
  intro pins s σ H x y v u Q I rx ry h
  obtain ⟨W, σ', env, S, Ha, d1, t1, d2, t2, d, t, ok, h1, h2, r1, r2, e, q⟩ := id h
  unfold oInA at e
  split at e
  · rename_i kvs
    obtain ⟨o, e1, e2⟩ := Option.map_eq_some_iff.mp e
    cases e2
    obtain ⟨a, rfl, c⟩ := h2.dct r2
    cases ry
    rcases lookD_of c (h1.read r1) e1 with ⟨rfl, g⟩ | ⟨z, r, rfl, hz, g⟩
    · exact g_in (by omega) I g rx fun s' I' => ⟨.bl false, H, I', rfl, q _ H Kp.refl ok.src (Den.bl _)⟩
    · exact g_in (by omega) I g rx fun s' I' => ⟨.bl true, H, I', rfl, q _ H Kp.refl ok.src (Den.bl _)⟩
  · exact op_oIn hu pins s σ H x y v u Q I rx ry ⟨W, σ', env, S, Ha, d1, t1, d2, t2, d, t, ok, h1, h2, r1, r2, e, q⟩
theorem op_oNotInA (hu : X.A.units + 65 < cLine) : OpR X (compareOp .NotIn) (rOp X.prog X.w X.K oNotInA) := by
  intro pins s σ H x y v u Q I rx ry h
  obtain ⟨W, σ', env, S, Ha, d1, t1, d2, t2, d, t, ok, h1, h2, r1, r2, e, q⟩ := id h
  unfold oNotInA at e
  split at e
  · rename_i kvs
    obtain ⟨o, e1, e2⟩ := Option.map_eq_some_iff.mp e
    cases e2
    obtain ⟨a, rfl, c⟩ := h2.dct r2
    cases ry
    rcases lookD_of c (h1.read r1) e1 with ⟨rfl, g⟩ | ⟨z, r, rfl, hz, g⟩
    · exact g_notIn (by omega) I g rx fun s' I' => ⟨.bl true, H, I', rfl, q _ H Kp.refl ok.src (Den.bl _)⟩
    · exact g_notIn (by omega) I g rx fun s' I' => ⟨.bl false, H, I', rfl, q _ H Kp.refl ok.src (Den.bl _)⟩
  · exact op_oNotIn hu pins s σ H x y v u Q I rx ry ⟨W, σ', env, S, Ha, d1, t1, d2, t2, d, t, ok, h1, h2, r1, r2, e, q⟩
/-- o[i], by what it gives -/
theorem sub_tail {P : Program} {w : World} {A : Around} {E : Value → Shared → Prop} {s : Shared} {value slice : Expr} {o i : Value} {T id : String} {Q : Value → Shared → Prop} (ty : s.TypeIs o T) (look : typeLookup (.type T) "__getitem__" = pure (some (.builtin id)))
    (g : wpAny (model P w) A (getItem o i) Q E s) (plain : subscripted slice false o i = operate [o, i] (getItem o i)) : wpAny (model P w) A (subscriptTail value slice o i) Q E s := by
  have fin : wpAny (model P w) A (subscripted slice false o i) (fun z s' => wpAny (model P w) A (letTemporaryGo value o z >>= fun _ => pure z) Q E s') E s := by
    rw [plain]
    exact wpAny_operating (wpAny_mono g (fun z s' q => wpAny_bind (wpAny_letTemporaryGo (wpAny_pure q))) fun _ _ x => x)
  unfold subscriptTail
  refine wpAny_bind ?_
  rw [getitemInPython_of_ne ty.not_modules]
  refine wpAny_bind (wpAny_specialOf ty look ?_)
  first
    | exact wpAny_pure (wpAny_bind fin)
    | exact wpAny_bind (wpAny_pure (wpAny_bind fin))
    | exact wpAny_bind fin
theorem ix_oIxA (hu : X.A.units + 64 < cLine) : IxR X (rOp X.prog X.w X.K oIxA) := by
  intro value slice pins s σ H x y v u Q I rx ry h hs
  obtain ⟨W, σ', env, S, Ha, d1, t1, d2, t2, d, t, ok, h1, h2, r1, r2, e, q⟩ := id h
  unfold oIxA at e
  split at e
  · rename_i kvs
    obtain ⟨o, e1, e2⟩ := Option.bind_eq_some_iff.mp e
    obtain ⟨r0, rfl, e2⟩ := Option.map_eq_some_iff.mp e2
    cases e2
    obtain ⟨a, rfl, c⟩ := h1.dct r1
    cases rx
    rcases lookD_of c (h2.read r2) e1 with ⟨e3, g⟩ | ⟨z, r, e3, hz, g⟩
    · cases e3
    · cases e3
      exact sub_tail (g_type I g).1 PySem.F.slot_dict_getitem.lookup (g_item hu I g ry fun w' s' I' r' => ⟨z, H, I', r', q _ H Kp.refl ok.src hz⟩) hs
  · exact ix_oIx value slice pins s σ H x y v u Q I rx ry ⟨W, σ', env, S, Ha, d1, t1, d2, t2, d, t, ok, h1, h2, r1, r2, e, q⟩ hs
theorem ee_ixA (hu : X.A.units + 64 < cLine) (ha : EE X a ma) (hb : EE X b mb) (hs : PlainIx b := by exact fun _ _ => rfl) : EE X (.Subscript a b pos) (eBin oIxA ma mb) := pe_wk (pe_ix (ix_oIxA hu) ha hb hs) fun _ _ _ h => bin_read h
/-! ### d.get -/
def tGet2 (P : Program) (w : World) (K : PySem.W.Frag) (td ty tx : TE) : TE := fun σ H Q => td σ H fun x H1 => ∃ a, x = .ref a ∧ (∃ N kvs, DCn P w K N H1 a kvs) ∧ ty σ H1 fun y H2 => tx σ H2 fun z H3 => ∃ o, DG P w K H3 a y o ∧ Q (o.getD z) H3
theorem cn_type {pins : List (Addr × Obj)} {σ : L2.St} {H : Hp} {s : Shared} {a : Addr} {N : Addr → Prop} {kvs : List (PyData × PyData)} (I : Inv X pins σ H s) (c : DCn X.prog X.w X.K N H a kvs) : s.TypeIs (.ref a) "dict" ∧ (∀ b, Value.ref a = .ref b → ∃ ob, s.heap.get? b = some ob ∧ ob.dict = none) := by
  rcases c with ⟨es, ds, e, _⟩ | ⟨xs, raw, _⟩
  · exact g_type I (y := .int 0) (o := valV es (.inl 0)) (.inl ⟨es, .inl 0, e, rfl, rfl⟩)
  · obtain ⟨dd, hd, _⟩ := raw_of I raw
    refine ⟨dd.typeIs, fun b q => ?_⟩
    cases q
    obtain ⟨ob, _, _, h1, h2, _⟩ := dd
    exact ⟨ob, h1, h2.2.1⟩
theorem pe_get2 {td ty tx : TE} (hu : X.A.units + 64 < cLine) (ho : PE X a td) (he : PE X b ty) (hf : PE X c tx) (m : M2 X a "get" apos b c cpos) : PE X (.Call (.Attribute a "get" apos) [b, c] [] cpos) (tGet2 X.prog X.w X.K td ty tx) := by
  constructor
  intro pins s σ H Q I h
  refine wpAny_Call_method m.base m.few m.line PySem.F.plainAttrs_dict PySem.F.slot_dict_get PySem.F.type_dict_get (thn (ho.run pins s σ H _ I h) fun u s1 ⟨x, H1, I1, rx, a, ex, ⟨N, kvs, cn⟩, q1⟩ => ?_)
  subst ex
  obtain rfl : u = Value.ref a := rx
  obtain ⟨t1, t2⟩ := cn_type I1 cn
  refine ⟨t1, t2, ?_⟩
  rw [m.trees]
  refine Calls.callWith_builtin rfl (Calls.evalArgs_plain (Calls.spliced_cons (thn (he.run pins s1 σ H1 _ I1 q1) fun iv s2 ⟨y, H2, I2, ry, q2⟩ => ?_)))
  refine Calls.spliced_cons (thn (hf.run pins s2 σ H2 _ I2 q2) fun fv s3 ⟨z, H3, I3, rz, o, g, q3⟩ => Calls.spliced_nil ?_)
  exact g_get2 hu I3 g ry rz fun w' s4 I4 rw' => ⟨_, H3, I4, rw', q3⟩
def tGet1 (P : Program) (w : World) (K : PySem.W.Frag) (td ty : TE) : TE := fun σ H Q => td σ H fun x H1 => ∃ a, x = .ref a ∧ (∃ N kvs, DCn P w K N H1 a kvs) ∧ ty σ H1 fun y H2 => ∃ o, DG P w K H2 a y o ∧ Q (o.getD .non) H2
theorem pe_get1 {td ty : TE} (hu : X.A.units + 64 < cLine) (ho : PE X a td) (he : PE X b ty) (m : M1 X a "get" apos b cpos) : PE X (.Call (.Attribute a "get" apos) [b] [] cpos) (tGet1 X.prog X.w X.K td ty) := by
  constructor
  intro pins s σ H Q I h
  refine wpAny_Call_method m.base m.few m.line PySem.F.plainAttrs_dict PySem.F.slot_dict_get PySem.F.type_dict_get (thn (ho.run pins s σ H _ I h) fun u s1 ⟨x, H1, I1, rx, a, ex, ⟨N, kvs, cn⟩, q1⟩ => ?_)
  subst ex
  obtain rfl : u = Value.ref a := rx
  obtain ⟨t1, t2⟩ := cn_type I1 cn
  refine ⟨t1, t2, ?_⟩
  rw [m.trees]
  refine Calls.callWith_builtin rfl (Calls.evalArgs_plain (Calls.spliced_cons (thn (he.run pins s1 σ H1 _ I1 q1) fun iv s2 ⟨y, H2, I2, ry, o, g, q2⟩ => Calls.spliced_nil ?_)))
  exact g_get1 hu I2 g ry fun w' s4 I4 rw' => ⟨_, H2, I4, rw', q2⟩
/-- d.get(k, x) -/
def eGet2 (m mk mx : ED) : ED := fun env S => (m env S).bind fun r => (mk env r.2.2).bind fun q => (mx env q.2.2).bind fun p => match r.1 with
  | .dict kvs => if r.2.1.rd && q.2.1.rd && p.2.1.cln then (lookD kvs q.1).map fun o => (o.getD p.1, .cl, p.2.2) else none
  | _ => none
def eGet1 (m mk : ED) : ED := fun env S => (m env S).bind fun r => (mk env r.2.2).bind fun q => match r.1 with
  | .dict kvs => if r.2.1.rd && q.2.1.rd then (lookD kvs q.1).map fun o => (o.getD .none, .cl, q.2.2) else none
  | _ => none
theorem DCn.keep' {P : Program} {w : World} {K : PySem.W.Frag} {N : Addr → Prop} {H H' : Hp} {a : Addr} {kvs : List (PyData × PyData)} (c : DCn P w K N H a kvs) (ka : ∀ u, H a = some u → H' a = some u) (k : Kp N H H') : DCn P w K N H' a kvs := by
  rcases c with ⟨es, ds, e, t, rfl⟩ | ⟨xs, ⟨o, es, ep, h1, h2, h3, h4, h5, h6, h7, h8⟩, t⟩
  · refine .inl ⟨es, ds, ?_, t.keep k, rfl⟩
    rcases e with e | ⟨o, e⟩
    · exact .inl (ka _ e)
    · exact .inr ⟨o, ka _ e⟩
  · have t' : Ents P w K N H' xs kvs := t.imp fun a u n e => ⟨n, k a u n e⟩
    exact .inr ⟨xs, ⟨o, es, ep, ka _ h1, h2, h3, h4, h5, h6, h7, ents_nky' t'⟩, t'⟩
theorem ee_get2 (hu : X.A.units + 64 < cLine) (ho : EE X a ma) (he : EE X b mb) (hf : EE X c mc) (m : M2 X a "get" apos b c cpos) : EE X (.Call (.Attribute a "get" apos) [b, c] [] cpos) (eGet2 ma mb mc) := pe_wk (pe_get2 hu ho he hf m) fun σ H Q ⟨W, env, S, ok, d, t, S', e, h⟩ => by
  obtain ⟨⟨d1, t1, S1⟩, e1, e⟩ := Option.bind_eq_some_iff.mp e
  obtain ⟨⟨d2, t2, S2⟩, e2, e⟩ := Option.bind_eq_some_iff.mp e
  obtain ⟨⟨d3, t3, S3⟩, e3, e⟩ := Option.bind_eq_some_iff.mp e
  dsimp only at e e2 e3
  split at e
  case h_2 => cases e
  split at e
  case isFalse => cases e
  rename_i kvs hz
  simp only [Bool.and_eq_true] at hz
  obtain ⟨o, e4, e5⟩ := Option.map_eq_some_iff.mp e
  cases e5
  refine tEv.use ok e1 fun x H1 ok1 k1 s1 hx => ?_
  obtain ⟨a, rfl, cn⟩ := hx.dct hz.1.1
  refine ⟨a, rfl, ⟨_, _, cn⟩, tEv.use ok1 e2 fun y H2 ok2 k2 s2 hy => tEv.use ok2 e3 fun z H3 ok3 k3 s3 hz3 => ?_⟩
  have hx3 := (hx.grow ok k2).grow ok k3
  obtain ⟨a', ea, cn3⟩ := hx3.dct hz.1.1
  cases ea
  have hy3 := (hy.grow ok1 k3).read hz.1.2
  have fin : ∀ v, Den X.prog X.w X.K W.N H3 v (o.getD d3) → Q v H3 := fun v hv => h v H3 ((k1.trans k2).trans k3) s3 hv
  rcases lookD_of cn3 hy3 e4 with ⟨rfl, g⟩ | ⟨v, r, rfl, hv, g⟩
  · exact ⟨none, g, fin _ (hz3.clean ok2 hz.2)⟩
  · exact ⟨some v, g, fin _ hv⟩
theorem ee_get1 (hu : X.A.units + 64 < cLine) (ho : EE X a ma) (he : EE X b mb) (m : M1 X a "get" apos b cpos) : EE X (.Call (.Attribute a "get" apos) [b] [] cpos) (eGet1 ma mb) := pe_wk (pe_get1 hu ho he m) fun σ H Q ⟨W, env, S, ok, d, t, S', e, h⟩ => by
  obtain ⟨⟨d1, t1, S1⟩, e1, e⟩ := Option.bind_eq_some_iff.mp e
  obtain ⟨⟨d2, t2, S2⟩, e2, e⟩ := Option.bind_eq_some_iff.mp e
  dsimp only at e e2
  split at e
  case h_2 => cases e
  split at e
  case isFalse => cases e
  rename_i kvs hz
  simp only [Bool.and_eq_true] at hz
  obtain ⟨o, e4, e5⟩ := Option.map_eq_some_iff.mp e
  cases e5
  refine tEv.use ok e1 fun x H1 ok1 k1 s1 hx => ?_
  obtain ⟨a, rfl, cn⟩ := hx.dct hz.1
  refine ⟨a, rfl, ⟨_, _, cn⟩, tEv.use ok1 e2 fun y H2 ok2 k2 s2 hy => ?_⟩
  obtain ⟨a', ea, cn3⟩ := (hx.grow ok k2).dct hz.1
  cases ea
  have fin : ∀ v, Den X.prog X.w X.K W.N H2 v (o.getD .none) → Q v H2 := fun v hv => h v H2 (k1.trans k2) s2 hv
  rcases lookD_of cn3 (hy.read hz.2) e4 with ⟨rfl, g⟩ | ⟨v, r, rfl, hv, g⟩
  · exact ⟨none, g, fin _ .non⟩
  · exact ⟨some v, g, fin _ hv⟩
/-- {} -/
def eDct0 : ED := fun _ S => some (.dict [], .fr, S)
theorem ee_dct0 : EE X (.Dict [] [] pos) eDct0 := pe_wk pe_dnewK fun σ H Q ⟨W, env, S, ok, d, t, S', e, h⟩ => by
  cases e
  exact fun p hp => h (.ref p) _ (kp_new hp) (src_new ok.src hp) ⟨p, rfl, hp, .dK (es := []) (ds := []) upd_same .nil⟩

/-! ### x[k] = e, of a list or a dict -/
def rSetA (P : Program) (w : World) (K : PySem.W.Frag) : TSet := fun o i v H Q => rSetL o i v H Q ∨ ∃ a N kvs k d, o = .ref a ∧ Ob P w K N H a (.dict kvs) ∧ Den P w K N H i k.data ∧ keyOk k = true ∧ Den P w K N H v d ∧ kvs.length < 16777216 ∧ kindOk kvs k = true ∧ N a ∧
  ∀ ho, Ob P w K N (upd H a ho) a (.dict (putD kvs k d)) → Q (upd H a ho)
theorem set_any (hu : X.A.units + 64 < cLine) : PSet X (rSetA X.prog X.w X.K) := by
  intro pins s σ H o i v ov iv u Q I ro ri rv h
  rcases h with h | ⟨a, N, kvs, k, d, rfl, ob, hk, hko, hv, sz, kind, na, q⟩
  · exact set_list pins s σ H o i v ov iv u Q I ro ri rv h
  · cases ro
    exact g_set hu I ob hk hko hv sz kind na ri rv fun s' ho I' ob' => ⟨_, I', q ho ob'⟩
def sSetA (i : Nat) (mk m : ED) : SD := fun env S => (m env S).bind fun r => (mk env r.2.2).bind fun q => match env[i]? with
  | some (.ow (.dict kvs)) => if r.2.1.cln && q.2.1.cln && decide (kvs.length < 16777216) then (nkO q.1).bind fun k => if keyOk k && kindOk kvs k then some (.nx (env.set i (.ow (.dict (putD kvs k r.1)))) q.2.2) else none else none
  | some (.ow (.list ds)) => (match q.1 with
    | .int k => if r.2.1.cln && q.2.1.rd then (ixN ds.length k).map fun j => .nx (env.set i (.ow (.list (ds.set j r.1)))) q.2.2 else none
    | _ => none)
  | _ => none
section
variable {X : Cx} {e k : Expr} {me mk : ED} {i : Nat} {x : Str} {pos apos p : Pos}
theorem es_setA (hu : X.A.units + 64 < cLine) (hv : PE X (.Name x p) (tVar i)) (hk : EE X k mk) (he : EE X e me) (hs : swapsWithSole [.Subscript (.Name x p) k apos] e pos.line X.env = pure false := by rfl)
    (hw : swappedStores [.Subscript (.Name x p) k apos] e X.env = pure none := by rfl) (h1 : (assignEach [.Subscript (.Name x p) k apos] X.env).map (·.2) = [assign (.Subscript (.Name x p) k apos) X.env] := by rfl)
    (ha : ∀ v, assign (.Subscript (.Name x p) k apos) X.env v = (do
      let ov ← holding [v] (eval (.Name x p) X.env)
      let iv ← holding [v, ov] (eval k X.env)
      standAt apos
      holding [v, ov, iv] (setItem ov iv v)
      release [v, ov, iv] []) := by intro _; rfl) :
    ES X (.Assign [.Subscript (.Name x p) k apos] e pos) (sSetA i mk me) :=
  ps_wk (ps_asg he (pg_sub hv hk (set_any hu) ha) hs hw h1) fun D σ H ⟨W, env, S, ok, o, e, h⟩ => by
    obtain ⟨⟨d, t, S1⟩, e1, e⟩ := Option.bind_eq_some_iff.mp e
    obtain ⟨⟨dk, tk, S2⟩, e2, e⟩ := Option.bind_eq_some_iff.mp e
    dsimp only at e e2
    split at e
    · rename_i kvs q
      split at e
      case isFalse => cases e
      rename_i hz
      simp only [Bool.and_eq_true, decide_eq_true_eq] at hz
      obtain ⟨kk, ek, e⟩ := Option.bind_eq_some_iff.mp e
      split at e
      case isFalse => cases e
      rename_i hkk
      rw [Bool.and_eq_true] at hkk
      cases e
      obtain ⟨a, e3, e4, ob, hi⟩ := own_at ok q
      refine tEv.use ok e1 fun v H1 ok1 k1 s1 hv => ⟨.ref a, e4, ?_⟩
      refine tEv.use ok1 e2 fun y H2 ok2 k2 s2 hy => ?_
      have kk12 := k1.trans k2
      have hN : W.N a := .inr (.inl ⟨i, e3⟩)
      have ob2 : Ob X.prog X.w X.K W.N H2 a (.dict kvs) := ob.imp (fun b u n q => ⟨n, kpN kk12 b u n q⟩) fun u q => kk12 a u (ok.own0 i a e3).2 q
      have hy2 := hy.clean ok1 hz.1.2
      rw [← nkO_data ek] at hy2
      exact .inr ⟨a, W.N, kvs, kk, d, rfl, ob2, hy2, hkk.1, (hv.grow ok k2).clean ok hz.1.1, hz.2, hkk.2, hN, fun ho ob' => h W σ _ (Wd.Sim.refl W) (ok2.upd e3 hi ob')⟩
    · rename_i ds q
      split at e
      case h_2 => cases e
      rename_i kk
      split at e
      case isFalse => cases e
      rename_i hz
      rw [Bool.and_eq_true] at hz
      obtain ⟨j, ej, e⟩ := Option.map_eq_some_iff.mp e
      cases e
      obtain ⟨a, e3, e4, ob, hi⟩ := own_at ok q
      cases ob with
      | lst e5 t5 =>
        rename_i vs
        refine tEv.use ok e1 fun v H1 ok1 k1 s1 hv => ⟨.ref a, e4, ?_⟩
        refine tEv.use ok1 e2 fun y H2 ok2 k2 s2 hy => ?_
        have kk12 := k1.trans k2
        have e6 : H2 a = some (.lst vs) := kk12 a _ (ok.own0 i a e3).2 e5
        have t6 : Dens X.prog X.w X.K W.N H2 vs ds := t5.keep (kpN kk12)
        have hN : W.N a := .inr (.inl ⟨i, e3⟩)
        refine .inl ⟨a, vs, kk, j, rfl, hy.int hz.2, e6, by rw [t6.length]; exact ej, ?_⟩
        exact h W σ _ (Wd.Sim.refl W) (ok2.upd e3 hi (.lst upd_same ((Dens.set ((hv.grow ok k2).clean ok hz.1) j t6).keep (kp_own hN))))
    · cases e
end
end
end Ev

namespace Ev
open PySem PySem.Spec PyProof.Rows L2

/-! ### isinstance -/
def tyN : PyData → String
  | .none => "NoneType"
  | .bool _ => "bool"
  | .int _ => "int"
  | .str _ => "str"
  | .list _ => "list"
  | .tuple _ => "tuple"
  | .dict _ => "dict"
def isiN (n : String) (d : PyData) : Bool := tyN d == n || (n == "int" && tyN d == "bool")
def isiNames : List String := ["int", "bool", "str", "list", "tuple", "dict"]
theorem kit_all : ∀ n ∈ isiNames, ∀ t ∈ ["NoneType", "bool", "int", "str", "list", "tuple", "dict"], kitB t n = some (t == n || (n == "int" && t == "bool")) := by decide +kernel
theorem tyN_mem (d : PyData) : tyN d ∈ ["NoneType", "bool", "int", "str", "list", "tuple", "dict"] := by cases d <;> simp [tyN]
section
variable {X : Cx} {pins : List (Addr × Obj)} {σ : L2.St} {H : Hp} {s : Shared}
theorem kit_den {v : V} {u : Value} {d : PyData} (I : Inv X pins σ H s) (r : RelV v u) (h : Den X.prog X.w X.K (fun _ => False) H v d) : ∃ P : Heap → Prop, PySem.W.KitX X.K u (.type (tyN d)) P ∧ P s.heap ∧ u ≠ .builtin "__main__.__loader__#opaque" := by
  cases h with
  | non => exact kit_of I r (.base .non)
  | bl b => exact kit_of I r (.base (.bl b))
  | int i => exact kit_of I r (.base (.int i))
  | str x => exact kit_of I r (.base (.str x))
  | tup h t =>
    obtain rfl : u = .ref _ := r
    obtain ⟨its, rv, ⟨ob, h1, h2, n, h3⟩, _⟩ := I.tuple (sqT_of (N := fun _ => False) h)
    exact ⟨_, PySem.W.kitx_tuple, ⟨ob, h1, h2⟩, fun z => nomatch z⟩
  | lst h n t => exact kit_of I r (.base (.lst h))
  | dK h n t =>
    obtain rfl : u = .ref _ := r
    obtain ⟨_, _, vs, _, o, es, ep, h1, h2, _⟩ := dk_rd I.hok h
    exact ⟨_, PySem.W.kitx_dict, ⟨o, h1, h2.1⟩, fun z => nomatch z⟩
  | dN h n y e1 e2 e3 e4 e5 t =>
    obtain rfl : u = .ref _ := r
    obtain ⟨dd, _⟩ := raw_of I ⟨_, _, _, h, y, e1, e2, e3, e4, e5, ents_nky t⟩
    obtain ⟨o, es, ep, h1, h2, _⟩ := dd
    exact ⟨_, PySem.W.kitx_dict, ⟨o, h1, h2.1⟩, fun z => nomatch z⟩
end
def rIsD (P : Program) (w : World) (K : PySem.W.Frag) : List V → Hp → VK → Prop := fun xs H Q => ∃ x n d, xs = [x, .ty n] ∧ n ∈ isiNames ∧ Den P w K (fun _ => False) H x d ∧ Q (.bl (isiN n d)) H
theorem call_isD {X : Cx} : CallR X (.builtin "isinstance") (rIsD X.prog X.w X.K) := by
  intro pins s σ H xs us Q I r h
  obtain ⟨x, n, d, rfl, hn, hd, q⟩ := h
  obtain ⟨u1, u2, rfl, r1, r2⟩ := vals2 r
  obtain rfl : u2 = Value.type n := r2
  obtain ⟨P, Z, p, hx⟩ := kit_den I r1 hd
  exact PySem.W.kia_one Z I.kIn p (kit_ty (kit_all n hn _ (tyN_mem d))) hx fun tk => ⟨.bl _, H, I.tok tk, rfl, q⟩
def eIsi (n : String) (m : ED) : ED := fun env S => (m env S).bind fun r => if r.2.1.rd && decide (n ∈ isiNames) then some (.bool (isiN n r.1), .cl, r.2.2) else none
section
variable {X : Cx} {e e2 : Expr} {m : ED} {pos p p2 : Pos} {n : String} {x : Str}
theorem ee_isi (hg : Gl X "isinstance") (hm : X.mg "isinstance" = none) (ha : EE X e m) (hg2 : Gl X x) (hm2 : X.mg x = none) (hv : bootBuiltins x = some (.type n)) (hn : x ≠ "__name__" := by decide) (hd : (x == ("__debug__" : Str)) = false := by decide)
    (he : starEach [e, .Name x p2] X.env = (false, eval e X.env) :: starEach [.Name x p2] X.env := by rfl) (hpl : (backTo pos (starEach [.Name x p2] X.env)).any (·.1) = false := by rfl)
    (he2 : starEach [.Name x p2] X.env = (false, eval (.Name x p2) X.env) :: starEach [] X.env := by rfl) : EE X (.Call (.Name "isinstance" p) [e, .Name x p2] [] pos) (eIsi n m) :=
  pe_wk (pe_callB call_isD hg hm (by decide +kernel) (pa_cons ha (pa_cons (pe_bltn (v := .ty n) hg2 hm2 hv rfl hn hd) pa_nil he2) he) (by decide) (by decide) he hpl) fun σ H Q ⟨W, env, S, ok, d, t, S', e, h⟩ => by
    obtain ⟨⟨d1, t1, S1⟩, e1, e⟩ := Option.bind_eq_some_iff.mp e
    dsimp only at e
    split at e
    case isFalse => cases e
    rename_i hz
    rw [Bool.and_eq_true, decide_eq_true_eq] at hz
    cases e
    exact tEv.use ok e1 fun v H1 ok1 k1 s1 hv => ⟨v, n, d1, rfl, hz.2, hv.read hz.1, h _ H1 k1 s1 (Den.bl _)⟩
end

/-! ### repr -/
def fRepr : OF
  | [(d, _)] => if SeqAt.shaped d && PyData.showable d && decide (d.shown.length ≤ 16777216) then some (.str d.shown, .cl) else none
  | _ => none
theorem call_fRepr {X : Cx} (hg : X.A.guards = some []) (hu : X.A.units + 70 < cLine) : CallR X (.builtin "repr") (rFn X.prog X.w X.K fRepr) := by
  intro pins s σ H xs us Q I r h
  obtain ⟨W, σ', env, S, Ha, ds, d, t, ok, hv, hr, e, q⟩ := h
  unfold fRepr at e
  split at e
  case h_2 => cases e
  rename_i d0 t0
  split at e
  case isFalse => cases e
  rename_i hz
  simp only [Bool.and_eq_true, decide_eq_true_eq] at hz
  cases e
  obtain ⟨v, rfl, h1⟩ := vs1 hv
  have hr0 : t0.rd = true := by simpa using hr
  obtain ⟨u, rfl, r0⟩ := vals1 r
  have fin : ∀ {s' : Shared} {tk : Tok}, Inv X pins σ H s' → EP X pins σ Q (.str d0.shown tk) s' := fun I' => ⟨.str d0.shown, H, I', ⟨_, rfl⟩, q _ H Kp.refl ok.src (Den.str _)⟩
  have hsz : d0.shown.length ≤ sizeLine := by rw [sizeLine_eq]; exact hz.2
  have hd := h1.read hr0
  cases hd with
  | non =>
    obtain rfl : u = .none := r0
    exact PySem.P.repr_of_none (fin (I.tok _))
  | bl b =>
    obtain rfl : u = .bool b := r0
    exact PySem.P.repr_of_bool (by have := fin (tk := s.toks) (I.tok (s.toks + 1)); cases b <;> simpa [PyData.shown] using this)
  | int i =>
    obtain ⟨tk, rfl⟩ := (show ∃ t, u = Value.int i t from r0)
    exact PySem.P.repr_of_int (by simpa [PyData.showable] using hz.1.2) (fin (I.tok _))
  | str x =>
    obtain ⟨tk, rfl⟩ := (show ∃ t, u = Value.str x t from r0)
    exact PySem.P.repr_of_str (fin (I.tok _)) hsz
  | tup h t =>
    obtain ⟨as, rd⟩ := Dp.reads I _ _ u (h1.dp hr0 hz.1.1) r0
    obtain rfl : u = .ref _ := r0
    exact repr_of_reads' (h₀ := s.heap) rd hz.1.2 (PyData.noDict_hsm (PyData.hasDict_of_canLay _ (SeqAt.canLay_of_shaped hz.1.1))) hg (by have := SeqAt.depth_of_shaped hz.1.1; omega) (fun _ _ e => e) (fun h' u tk hk => fin (I.kept hk)) hsz
  | lst h n t =>
    obtain ⟨as, rd⟩ := Dp.reads I _ _ u (h1.dp hr0 hz.1.1) r0
    obtain rfl : u = .ref _ := r0
    exact repr_of_reads' (h₀ := s.heap) rd hz.1.2 (PyData.noDict_hsm (PyData.hasDict_of_canLay _ (SeqAt.canLay_of_shaped hz.1.1))) hg (by have := SeqAt.depth_of_shaped hz.1.1; omega) (fun _ _ e => e) (fun h' u tk hk => fin (I.kept hk)) hsz
  | dK h n t =>
    have := SeqAt.canLay_of_shaped hz.1.1
    simp [PyData.canLay0] at this
  | dN h n y e1 e2 e3 e4 e5 t =>
    have := SeqAt.canLay_of_shaped hz.1.1
    simp [PyData.canLay0] at this

/-! ### the order of tuples -/
mutual
def cmpD (g : Int → Int → Bool) (z : Bool × Bool × Bool) : PyData → PyData → Option Bool
  | .int a, y => (match y with
    | .int b => some (g a b)
    | _ => none)
  | .tuple xs, y => (match y with
    | .tuple ys => cmpDs g z xs ys
    | _ => none)
  | _, _ => none
def cmpDs (g : Int → Int → Bool) (z : Bool × Bool × Bool) : List PyData → List PyData → Option Bool
  | [], [] => some z.1
  | [], _ :: _ => some z.2.1
  | _ :: _, [] => some z.2.2
  | x :: xs, y :: ys => (cmpDs g z xs ys).bind fun rest => if PyData.eqv x y then some rest else cmpD g z x y
end
def consF (b : Bool) (f : Nat → Bool) : Nat → Bool
  | 0 => b
  | j + 1 => f j
theorem lexAt_shift (e r : Nat → Bool) (z : Bool) : ∀ (k i : Nat), Ob.lexAt e r z (i + 1) k = Ob.lexAt (fun j => e (j + 1)) (fun j => r (j + 1)) z i k
  | 0, _ => rfl
  | k + 1, i => by
    rw [Ob.lexAt_succ, Ob.lexAt_succ, lexAt_shift e r z k (i + 1)]
/-- what a comparison of tuples needs to know of its sort -/
structure CmpK (op : CmpOp) (g : Int → Int → Bool) (z : Bool × Bool × Bool) (le : Nat → Nat → Bool) : Prop where
  int : ∀ (A : Around) (s : Shared) (a b : Int) (t u : Tok), Ob.RcOp op A s (.int a t) (.int b u) (g a b)
  tup : ∀ {A : Around} {s : Shared} {l b : Addr} {items items2 : Array Value} {e r : Nat → Bool}, s.heap.IsTuple l items → s.heap.IsTuple b items2 → A.units < cLine →
    (∀ j (h1 : j < items.size) (h2 : j < items2.size), SeqAt.EqAt A.in1 s items[j] items2[j] (e j)) →
    (∀ j (h1 : j < items.size) (h2 : j < items2.size), e j = false → Ob.RcOp op A.in1 s items[j] items2[j] (r j)) →
    Ob.RcOp op A s (.ref l) (.ref b) (Ob.lexAt e r (le items.size items2.size) 0 (min items.size items2.size))
  z1 : le 0 0 = z.1
  z2 : ∀ n, le 0 (n + 1) = z.2.1
  z3 : ∀ n, le (n + 1) 0 = z.2.2
  zs : ∀ n m, le (n + 1) (m + 1) = le n m
theorem cmpK_lt : CmpK .Lt (fun a b => decide (a < b)) (false, true, false) (fun n m => decide (n < m)) := ⟨fun _ _ _ _ _ _ => Ob.RcOp.lt_int _ _ _ _, Ob.RcOp.tuples_lt, rfl, fun _ => by simp, fun _ => by simp, fun _ _ => by simp⟩
theorem cmpK_le : CmpK .LtE (fun a b => decide (a ≤ b)) (true, true, false) (fun n m => decide (n ≤ m)) := ⟨fun _ _ _ _ _ _ => Ob.RcOp.le_int _ _ _ _, Ob.RcOp.tuples_le, rfl, fun _ => by simp, fun _ => by simp, fun _ _ => by simp⟩
theorem cmpK_gt : CmpK .Gt (fun a b => decide (b < a)) (false, false, true) (fun n m => decide (n > m)) := ⟨fun _ _ _ _ _ _ => Ob.RcOp.gt_int _ _ _ _, Ob.RcOp.tuples_gt, rfl, fun _ => by simp, fun _ => by simp, fun _ _ => by simp⟩
theorem cmpK_ge : CmpK .GtE (fun a b => decide (b ≤ a)) (true, false, true) (fun n m => decide (n ≥ m)) := ⟨fun _ _ _ _ _ _ => Ob.RcOp.ge_int _ _ _ _, Ob.RcOp.tuples_ge, rfl, fun _ => by simp, fun _ => by simp, fun _ _ => by simp⟩
section
variable {op : CmpOp} {g : Int → Int → Bool} {z : Bool × Bool × Bool} {le : Nat → Nat → Bool}
mutual
theorem cmp_reads (C : CmpK op g z le) : ∀ (da db : PyData) (k : Bool) (A : Around) (s : Shared) (a b : Value) (as bs : List Addr), Reads s.heap a da as → Reads s.heap b db bs → da.canLay0 = true → db.canLay0 = true → A.units + da.depth < cLine → cmpD g z da db = some k → Ob.RcOp op A s a b k
  | .int i, db, k, A, s, a, b, as, bs, ra, rb, ca, cb, hu, e => by
    unfold cmpD at e
    split at e
    case h_2 => cases e
    cases e
    cases ra
    cases rb
    exact C.int A s _ _ _ _
  | .tuple xs, db, k, A, s, a, b, as, bs, ra, rb, ca, cb, hu, e => by
    unfold cmpD at e
    split at e
    case h_2 => cases e
    rename_i ys
    have hd : A.in1.units + PyData.depthAll xs < cLine := by
      have : A.in1.units = A.units + 1 := rfl
      simp only [PyData.depth] at hu
      omega
    cases ra with
    | tuple a1 a2 a3 a4 =>
      cases rb with
      | tuple b1 b2 b3 b4 =>
        obtain ⟨ee, rr, q1, q2, q3⟩ := cmps_reads C xs ys k A.in1 s _ _ _ _ a4 b4 (by simpa [PyData.canLay0] using ca) (by simpa [PyData.canLay0] using cb) hd e
        rw [← q3]
        refine C.tup ⟨_, a1, a2, _, a3⟩ ⟨_, b1, b2, _, b3⟩ (by omega) (fun j h1 h2 => ?_) fun j h1 h2 => ?_
        · have := q1 j (by simpa using h1) (by simpa using h2)
          simpa using this
        · have := q2 j (by simpa using h1) (by simpa using h2)
          simpa using this
  | .none, db, k, A, s, a, b, as, bs, ra, rb, ca, cb, hu, e => by unfold cmpD at e; cases e
  | .bool _, db, k, A, s, a, b, as, bs, ra, rb, ca, cb, hu, e => by unfold cmpD at e; cases e
  | .str _, db, k, A, s, a, b, as, bs, ra, rb, ca, cb, hu, e => by unfold cmpD at e; cases e
  | .list _, db, k, A, s, a, b, as, bs, ra, rb, ca, cb, hu, e => by unfold cmpD at e; cases e
  | .dict _, db, k, A, s, a, b, as, bs, ra, rb, ca, cb, hu, e => by unfold cmpD at e; cases e
theorem cmps_reads (C : CmpK op g z le) : ∀ (xs ys : List PyData) (k : Bool) (A : Around) (s : Shared) (us vs : List Value) (as bs : List Addr), ReadsAll s.heap us xs as → ReadsAll s.heap vs ys bs → PyData.canLayAll0 xs = true → PyData.canLayAll0 ys = true → A.units + PyData.depthAll xs < cLine → cmpDs g z xs ys = some k →
    ∃ e r : Nat → Bool, (∀ j (h1 : j < us.length) (h2 : j < vs.length), SeqAt.EqAt A s us[j] vs[j] (e j)) ∧ (∀ j (h1 : j < us.length) (h2 : j < vs.length), e j = false → Ob.RcOp op A s us[j] vs[j] (r j)) ∧ Ob.lexAt e r (le us.length vs.length) 0 (min us.length vs.length) = k
  | [], [], k, A, s, us, vs, as, bs, ra, rb, ca, cb, hu, e => by
    cases ra; cases rb
    unfold cmpDs at e
    cases e
    exact ⟨fun _ => true, fun _ => true, fun j h1 _ => absurd h1 (Nat.not_lt_zero _), fun j h1 _ => absurd h1 (Nat.not_lt_zero _), C.z1⟩
  | [], y :: ys, k, A, s, us, vs, as, bs, ra, rb, ca, cb, hu, e => by
    cases ra; cases rb
    unfold cmpDs at e
    cases e
    refine ⟨fun _ => true, fun _ => true, fun j h1 _ => absurd h1 (Nat.not_lt_zero _), fun j h1 _ => absurd h1 (Nat.not_lt_zero _), ?_⟩
    rw [List.length_nil, List.length_cons, Nat.zero_min]
    exact C.z2 _
  | x :: xs, [], k, A, s, us, vs, as, bs, ra, rb, ca, cb, hu, e => by
    cases ra; cases rb
    unfold cmpDs at e
    cases e
    refine ⟨fun _ => true, fun _ => true, fun j _ h1 => absurd h1 (Nat.not_lt_zero _), fun j _ h1 => absurd h1 (Nat.not_lt_zero _), ?_⟩
    rw [List.length_nil, List.length_cons, Nat.min_zero]
    exact C.z3 _
  | x :: xs, y :: ys, k, A, s, us, vs, as, bs, ra, rb, ca, cb, hu, e => by
    unfold cmpDs at e
    have ca' : x.canLay0 = true ∧ PyData.canLayAll0 xs = true := by simpa [PyData.canLayAll0] using ca
    have cb' : y.canLay0 = true ∧ PyData.canLayAll0 ys = true := by simpa [PyData.canLayAll0] using cb
    have hu' : A.units + x.depth < cLine ∧ A.units + PyData.depthAll xs < cLine := by
      simp only [PyData.depthAll] at hu
      omega
    cases ra with
    | cons ra1 ra2 =>
      cases rb with
      | cons rb1 rb2 =>
        rename_i u us' a1 a2 v vs' b1 b2
        have eq0 := SeqAt.eqAt_reads x y A s u v _ _ ra1 rb1 ca'.1 cb'.1 (by omega)
        obtain ⟨rest, e0, e⟩ := Option.bind_eq_some_iff.mp e
        obtain ⟨e1, r1, q1, q2, q3⟩ := cmps_reads C xs ys rest A s _ _ _ _ ra2 rb2 ca'.2 cb'.2 hu'.2 e0
        by_cases hxy : PyData.eqv x y = true
        · rw [if_pos hxy] at e
          cases e
          refine ⟨consF true e1, consF true r1, fun j h1 h2 => ?_, fun j h1 h2 => ?_, ?_⟩
          · cases j with
            | zero => rw [hxy] at eq0; exact eq0
            | succ j => exact q1 j (by simpa using h1) (by simpa using h2)
          · cases j with
            | zero => intro z; cases z
            | succ j => exact q2 j (by simpa using h1) (by simpa using h2)
          · rw [List.length_cons, List.length_cons, C.zs, Nat.succ_min_succ, Ob.lexAt_succ, if_pos (show consF true e1 0 = true from rfl), lexAt_shift]
            exact q3
        · rw [if_neg hxy] at e
          have hxy' : PyData.eqv x y = false := by simpa using hxy
          have r0 := cmp_reads C x y k A s u v _ _ ra1 rb1 ca'.1 cb'.1 hu'.1 e
          refine ⟨consF false e1, consF k r1, fun j h1 h2 => ?_, fun j h1 h2 => ?_, ?_⟩
          · cases j with
            | zero => rw [hxy'] at eq0; exact eq0
            | succ j => exact q1 j (by simpa using h1) (by simpa using h2)
          · cases j with
            | zero => exact fun _ => r0
            | succ j => exact q2 j (by simpa using h1) (by simpa using h2)
          · rw [List.length_cons, List.length_cons, Nat.succ_min_succ, Ob.lexAt_succ, if_neg (show ¬ consF false e1 0 = true from Bool.false_ne_true)]
            rfl
end
end
/-- the ints' own comparison, or the tuples' -/
def oCmp (o : Opr) (g : Int → Int → Bool) (z : Bool × Bool × Bool) : Opr := fun d1 t1 d2 t2 => match d1, d2 with
  | .tuple xs, .tuple ys => if SeqAt.shaped (.tuple xs) && SeqAt.shaped (.tuple ys) then (cmpD g z (.tuple xs) (.tuple ys)).map fun k => (.bool k, .cl) else none
  | _, _ => o d1 t1 d2 t2
def oLtA : Opr := oCmp oLt (fun a b => decide (a < b)) (false, true, false)
def oLeA : Opr := oCmp oLe (fun a b => decide (a ≤ b)) (true, true, false)
def oGtA : Opr := oCmp oGt (fun a b => decide (b < a)) (false, false, true)
def oGeA : Opr := oCmp oGe (fun a b => decide (b ≤ a)) (true, false, true)
section
variable {X : Cx}
theorem op_oCmp {op : CmpOp} {o : Opr} {g : Int → Int → Bool} {z : Bool × Bool × Bool} {le : Nat → Nat → Bool} (C : CmpK op g z le) (ho : OpR X (compareOp op) (rOp X.prog X.w X.K o)) (hop : ∀ v u, compareOp op v u = richCompare op v u) (hu : X.A.units + 70 < cLine) : OpR X (compareOp op) (rOp X.prog X.w X.K (oCmp o g z)) := by
  intro pins s σ H x y v u Q I rx ry h
  obtain ⟨W, σ', env, S, Ha, d1, t1, d2, t2, d, t, ok, h1, h2, r1, r2, e, q⟩ := id h
  unfold oCmp at e
  split at e
  · split at e
    case isFalse => cases e
    rename_i hz
    rw [Bool.and_eq_true] at hz
    obtain ⟨k, e1, e2⟩ := Option.map_eq_some_iff.mp e
    cases e2
    obtain ⟨as, q1⟩ := Dp.reads I _ x v (h1.dp r1 hz.1) rx
    obtain ⟨bs, q2⟩ := Dp.reads I _ y u (h2.dp r2 hz.2) ry
    rw [hop]
    exact cmp_reads C _ _ k X.A s v u as bs q1 q2 (SeqAt.canLay_of_shaped hz.1) (SeqAt.canLay_of_shaped hz.2) (by have := SeqAt.depth_of_shaped hz.1; omega) e1 X.prog X.w X.xe _ ⟨.bl k, H, I, rfl, q _ H Kp.refl ok.src (Den.bl _)⟩
  · exact ho pins s σ H x y v u Q I rx ry ⟨W, σ', env, S, Ha, d1, t1, d2, t2, d, t, ok, h1, h2, r1, r2, e, q⟩
theorem op_oLtA (hu : X.A.units + 70 < cLine) : OpR X (compareOp .Lt) (rOp X.prog X.w X.K oLtA) := op_oCmp cmpK_lt op_oLt (fun _ _ => rfl) hu
theorem op_oLeA (hu : X.A.units + 70 < cLine) : OpR X (compareOp .LtE) (rOp X.prog X.w X.K oLeA) := op_oCmp cmpK_le op_oLe (fun _ _ => rfl) hu
theorem op_oGtA (hu : X.A.units + 70 < cLine) : OpR X (compareOp .Gt) (rOp X.prog X.w X.K oGtA) := op_oCmp cmpK_gt op_oGt (fun _ _ => rfl) hu
theorem op_oGeA (hu : X.A.units + 70 < cLine) : OpR X (compareOp .GtE) (rOp X.prog X.w X.K oGeA) := op_oCmp cmpK_ge op_oGe (fun _ _ => rfl) hu
end
end Ev

namespace Ev
open PySem PySem.Spec PyProof.Rows L2

/-! ### the law's own call, no guard standing -/
section
variable {P : Program} {w : World} {K : PySem.W.Frag} {mg mb : Str → Option Value} {k : Nat} {fa a : Addr} {fd : FuncData} {x : Str} {sp : Sp} {s₁ : Shared} {vs : List Value} {ns : List Int}
/-- by a heap H that tracks the script alone, or nothing -/
theorem law_core {H : Hp} (KX : K.In s₁.heap) (g1 : s₁.heap.Ns mainGlobals mg) (g2 : s₁.heap.Ns builtinsNs mb) (g3 : ∀ x : Str, x ≠ "__name__" → mb x = bootBuiltins x) (g4 : s₁.heap.NoLimit) (g5 : s₁.gens = #[])
    (obj : s₁.heap.get? a = some { cls := .type "list", data := .seq vs.toArray }) (hr : Room k callerA) (hgu : callerA.guards = some [])
    (F : ∀ base : Heap, K.In base → base.Ns mainGlobals mg → FnG P w K mg base k fa fd [x] sp) (bind : ∀ (s : Shared) (u : Value), BindsTo s fd ⟨[u], []⟩ [(x, u)])
    (only : Only H) (hok : HOk P w H s₁.heap) (one : ∀ b, H b ≠ none → b = a) (mine : H a ≠ none → K.lookup a = none) (hsp : sp [.ref a] H (fun v _ => v = .bl true) E0) :
    codeAny (model P w) callerA (.call (.ref fa) ⟨[.ref a], []⟩) (fun r s' => r = .ok (.ret (.bool true)) ∧ OldK s₁.heap s'.heap ∧ s'.os = s₁.os ∧ AllBare s'.gens) s₁ := by
  have free : ∀ {b : Addr} {o : Obj} {es : Array DictEntry} {ep : Nat}, s₁.heap.get? b = some o → o.data = .dict es ep → H b = none := fun {b o es ep} e d => Classical.byContradiction fun n => by
    obtain rfl := one b n
    rw [obj] at e
    cases e
    cases (show Data.seq vs.toArray _ = Data.dict es ep from d)
  have ns_ : ∀ {b : Addr} {m : Str → Option Value}, s₁.heap.Ns b m → (hidT s₁.heap H).Ns b m := fun {b m} z => by
    obtain ⟨o, es, ep, e, d, r⟩ := z
    exact ⟨o, es, ep, hidT_get e (free e d), d, r⟩
  have kin : K.In (hidT s₁.heap H) := fun b o e => by
    refine hidT_get (KX b o e) (Classical.byContradiction fun n => ?_)
    obtain rfl := one b n
    rw [mine n] at e
    cases e
  obtain ⟨mc, l1, l2⟩ := g4
  have env : Env0 P w K mg (hidT s₁.heap H) callerA [] s₁ H := {
    frames := rfl
    mod := ⟨kin, ns_ g1, ⟨mb, ns_ g2, g3⟩, mc, ns_ l1, l2⟩
    bs := fun b o e => of_hidT e
    bsz := Nat.le_of_eq (hidT_size _ _)
    funs := trivial
    frf := fun b hb => (nomatch (show b ∈ ([] : List Addr) from hb))
    hok := hok
    bare := .of_eq g5 }
  refine codeAny_mono ((F _ kin (ns_ g1)).run callerA [] s₁ H ⟨[.ref a], []⟩ [.ref a] [.ref a] _ hgu hr env (bind s₁ (.ref a)) (.cons rfl .nil) hsp) fun r s' h => ?_
  cases r with
  | error e => exact h.elim
  | ok fl =>
    cases fl with
    | next => exact False.elim h
    | brk => exact False.elim h
    | cont => exact False.elim h
    | ret u =>
      obtain ⟨v, H', os, bare, un, hok', r', q⟩ := h
      cases (show v = .bl true from q)
      cases (show u = Value.bool true from r')
      refine ⟨rfl, OldK.of_keep fun b o e => ?_, os, bare⟩
      rcases only b with z | ⟨ob, xs, z⟩
      · exact un.keep b o e z (fun y => nomatch (show b ∈ ([] : List Addr) from y)) (fun y => nomatch y)
      · obtain ⟨e1, _⟩ := hok b _ z
        obtain ⟨e2, _⟩ := hok' b _ (un.frzs b ob _ z)
        rw [e] at e1
        cases e1
        exact e2
/-- a law's call gives True, by its def's promise -/
theorem law_callG (KX : K.In s₁.heap) (g1 : s₁.heap.Ns mainGlobals mg) (g2 : s₁.heap.Ns builtinsNs mb) (g3 : ∀ x : Str, x ≠ "__name__" → mb x = bootBuiltins x) (g4 : s₁.heap.NoLimit) (g5 : s₁.gens = #[])
    (obj : s₁.heap.get? a = some { cls := .type "list", data := .seq vs.toArray }) (hi : IntsAre vs ns) (hl : ns.length ≤ sizeLine) (hr : Room k callerA) (hgu : callerA.guards = some [])
    (F : ∀ base : Heap, K.In base → base.Ns mainGlobals mg → FnG P w K mg base k fa fd [x] sp) (bind : ∀ (s : Shared) (u : Value), BindsTo s fd ⟨[u], []⟩ [(x, u)])
    (hsp : ∀ H : Hp, Only H → SqL K H a (ns.map V.int) → sp [.ref a] H (fun v _ => v = .bl true) E0) :
    codeAny (model P w) callerA (.call (.ref fa) ⟨[.ref a], []⟩) (fun r s' => r = .ok (.ret (.bool true)) ∧ OldK s₁.heap s'.heap ∧ s'.os = s₁.os ∧ AllBare s'.gens) s₁ := by
  have len := hi.length
  by_cases hk : K.lookup a = none
  · have only : Only (fun b => if b = a then some (.frz { cls := .type "list", data := .seq vs.toArray } (.lst (ns.map V.int))) else none) := fun b => by
      by_cases hb : b = a
      · exact .inr ⟨_, _, if_pos hb⟩
      · exact .inl (if_neg hb)
    refine law_core KX g1 g2 g3 g4 g5 obj hr hgu F bind only (fun b u z => ?_) (fun b z => ?_) (fun _ => hk) (hsp _ only (.inl (.inr ⟨{ cls := .type "list", data := .seq vs.toArray }, if_pos rfl⟩)))
    · by_cases hb : b = a
      · cases (if_pos hb).symm.trans z
        rw [hb]
        exact ⟨obj, by rw [List.length_map]; exact hl, vs, _, vals_ints hi, obj⟩
      · cases (if_neg hb).symm.trans z
    · exact Classical.byContradiction fun hb => z (if_neg hb)
  · obtain ⟨o, e⟩ := Option.ne_none_iff_exists'.mp hk
    have e' := KX a o e
    rw [obj] at e'
    cases e'
    have only : Only (fun _ : Addr => none) := fun _ => .inl rfl
    exact law_core KX g1 g2 g3 g4 g5 obj hr hgu F bind only (fun b u z => (nomatch (show (none : Option HO) = some u from z))) (fun b z => absurd rfl z) (fun z => absurd rfl z)
      (hsp _ only (.inr ⟨_, vs.toArray, _, e, rfl, rfl, rfl, by rw [List.size_toArray, len]; exact hl, by simpa using vals_ints hi⟩))
end
/-- the goal that k_head leaves, from the law's promise -/
theorem walkG {l : PySem.W.OpenLaw} {n k : Nat} {q : Program} {loose : List Str} {XP : (Str → Option Value) → Heap → Prop} {YP : World → Heap → Prop} {d : DefRec} {K : Params → PySem.W.Frag} {sp : World → Sp} {x : Str}
    (hn : l.most = some n) (hn2 : n ≤ sizeLine) (hdf : d.params.defaults = []) (hr : Room k callerA) (hY : ∀ (w : World) (h : Heap), YP w h → (K w.params).In h)
    (F : ∀ (w : World) (mg : Str → Option Value) (fa : Addr) (h : Heap), (K w.params).In h → h.Ns mainGlobals mg → mg d.name = some (.ref fa) →
      ∃ fd : FuncData, (∀ (s : Shared) (u : Value), BindsTo s fd ⟨[u], []⟩ [(x, u)]) ∧ ∀ base : Heap, (K w.params).In base → base.Ns mainGlobals mg → FnG l.prog w (K w.params) mg base k fa fd [x] (sp w))
    (hsp : ∀ (w : World) (H : Hp) (a : Addr) (ns : List Int), ns.length ≤ n → Only H → SqL (K w.params) H a (ns.map V.int) → sp w [.ref a] H (fun v _ => v = .bl true) E0) :
    PySem.W.WalkO q loose XP YP l.row.toRowW d [] (fun f vs => PySem.call f vs) := by
  refine Att.attach_call hn hdf fun w s₀ s₁ mg mb fa o pm cd doc a vs ns G Y ho hd hcd hmg hobj hints hlen hg => ?_
  have kx := hY w _ Y
  obtain ⟨fd, bind, prom⟩ := F w mg fa _ kx G.T.g hmg
  exact law_callG kx G.T.g G.T.b G.T.builtins G.T.nolimit hg hobj hints (Nat.le_trans hlen hn2) hr rfl prom bind fun H only seq => hsp w H a ns hlen only seq
end Ev

namespace Ev
open PySem PySem.Spec PyProof.Rows L2

/-! ### what a law promises, and what its source does -/
def spSource (K : PySem.W.Frag) : Sp := fun vs H Q _ => ∃ (a : Addr) (ns : List Int), vs = [.ref a] ∧ SqL K H a (ns.map V.int) ∧ ns.length ≤ 63 ∧
  ∀ (s : Src) (x c : Addr) (H' : Hp), H x = none → H c = none → x ≠ c → H' x = some (.dK (srcKv s c)) → H' c = some (.lst (s.cells.map .int)) → (∀ b u, H b = some u → H' b = some u) → Q (.ref x) H'
def spLaw (K : PySem.W.Frag) : Sp := fun vs H Q _ => ∃ (a : Addr) (ns : List Int), vs = [.ref a] ∧ SqL K H a (ns.map V.int) ∧ ns.length ≤ 63 ∧ ∀ H', Q (.bl true) H'
/-- a law's env behind its first line -/
def lawEnv (n : Nat) : En := .un :: .sr :: List.replicate (n - 2) .un
/-- source = _law_source(script), and the rest gives True for every source -/
theorem law_of {P : Program} {w : World} {K : PySem.W.Frag} {mg : Str → Option Value} {base : Heap} {k : Nat} {f : Addr} {fd : FuncData} {st : Stmt} {N : List Str} {m : SD}
    (F : Fun K "law" "law" st f fd) (S : FnScope N ["script"] (defScope st)) (hN : 2 ≤ N.length)
    (body : ∀ (cdv : Value) (A : Around) (outer : List Env) (s : Shared) (H : Hp), (A.deeper (PyProof.Rows.envOfC "law" (defScope st) s.heap.objs.size f cdv)).guards = some [] → Room k (A.deeper (PyProof.Rows.envOfC "law" (defScope st) s.heap.objs.size f cdv)) →
      PSs (cxOf CX0 P w K mg base N "law" (defScope st) f cdv A outer s H E0).nox (defBody st) (tSeq (tAsg (tCall (spSource K) [] E0 (tCons (tVar 0) tNil)) (gName 1)) (tEvS P w K m)))
    (gives : ∀ s : Src, ∃ S', m (lawEnv N.length) (some s) = some (.rt (.bool true) .cl S')) : FnG P w K mg base (k + 1) f fd ["script"] (spLaw K) := by
  refine fnG_of F S (fun vs H Q E h => ?_) fun cdv A outer s H vs Q hg hr hsp => ⟨_, body cdv A outer s H hg hr, ?_⟩
  · obtain ⟨a, ns, rfl, _⟩ := h; rfl
  obtain ⟨a, ns, rfl, hS, hl, q⟩ := hsp
  obtain ⟨n, hn⟩ : ∃ n, N.length = n + 2 := ⟨N.length - 2, by omega⟩
  have st0 : L2.start N [V.ref a] = some (.ref a) :: none :: List.replicate n none := by
    unfold L2.start
    rw [List.length_singleton, hn]
    rfl
  rw [st0]
  refine ⟨_, rfl, a, ns, rfl, hS, hl, fun sr x c H' hx hc nx e1 e2 kp => ?_⟩
  obtain ⟨S', e⟩ := gives sr
  have hle : lawEnv N.length = .un :: .sr :: List.replicate n .un := by unfold lawEnv; rw [hn]; rfl
  rw [hle] at e
  refine ⟨{ H0 := H', own := fun _ => none, bad := fun _ => False, src := some (x, c) }, _, some sr, ⟨by simp, fun a u e _ => e, fun i a e => (nomatch e), fun i j a e => (nomatch e), fun i a e => (nomatch e), fun a e => e.elim, fun i sl e => ?_, ⟨x, c, rfl, nx, e1, e2⟩⟩, _, e, fun v H2 _ _ r => ?_⟩
  · match i with
    | 0 => cases e; exact trivial
    | 1 => cases e; exact ⟨x, c, rfl, rfl⟩
    | i + 2 =>
      simp only [List.getElem?_cons_succ, List.getElem?_replicate] at e
      split at e
      · cases e; exact trivial
      · cases e
  · have r : Den P w K _ H2 v (.bool true) := r
    cases r
    exact q H2
/-- .. and the law holds -/
theorem walk_law {l : PySem.W.OpenLaw} {k : Nat} {q : Program} {loose : List Str} {XP : (Str → Option Value) → Heap → Prop} {YP : World → Heap → Prop} {d : DefRec} {K : Params → PySem.W.Frag} (hn : l.most = some 63) (hdf : d.params.defaults = []) (hr : Room k callerA) (hY : ∀ (w : World) (h : Heap), YP w h → (K w.params).In h)
    (F : ∀ (w : World) (mg : Str → Option Value) (fa : Addr) (h : Heap), (K w.params).In h → h.Ns mainGlobals mg → mg d.name = some (.ref fa) →
      ∃ fd : FuncData, (∀ (s : Shared) (u : Value), BindsTo s fd ⟨[u], []⟩ [("script", u)]) ∧ ∀ base : Heap, (K w.params).In base → base.Ns mainGlobals mg → FnG l.prog w (K w.params) mg base k fa fd ["script"] (spLaw (K w.params))) :
    PySem.W.WalkO q loose XP YP l.row.toRowW d [] (fun f vs => PySem.call f vs) :=
  walkG hn (by rw [sizeLine_eq]; decide) hdf hr hY F fun w H a ns hl _ seq => ⟨a, ns, rfl, seq, hl, fun _ => rfl⟩
end Ev

namespace Ev
open PySem PySem.Spec PyProof.Rows L2

/-! ### sorted(set(ints)) -/
def insU (x : Int) : List Int → List Int
  | [] => [x]
  | y :: r => if x < y then x :: y :: r else if x = y then y :: r else y :: insU x r
def srtU (ns : List Int) : List Int := ns.foldr insU []
theorem insU_mem {x z : Int} : ∀ {l : List Int}, z ∈ insU x l ↔ z = x ∨ z ∈ l
  | [] => by simp [insU]
  | y :: r => by
    unfold insU
    split
    · simp
    · split
      · rename_i h; subst h; simp
      · rw [List.mem_cons, insU_mem, List.mem_cons]
        constructor
        · rintro (h | h | h) <;> simp [h]
        · rintro (h | h | h) <;> simp [h]
theorem insU_srt {x : Int} : ∀ {l : List Int}, l.Pairwise (· < ·) → (insU x l).Pairwise (· < ·)
  | [], _ => by simp [insU]
  | y :: r, h => by
    unfold insU
    have hy := List.pairwise_cons.mp h
    split
    · rename_i hx
      refine List.pairwise_cons.mpr ⟨fun z hz => ?_, h⟩
      rcases List.mem_cons.mp hz with rfl | hz
      · exact hx
      · have := hy.1 z hz; omega
    · split
      · exact h
      · rename_i h1 h2
        refine List.pairwise_cons.mpr ⟨fun z hz => ?_, insU_srt hy.2⟩
        rcases insU_mem.mp hz with rfl | hz
        · omega
        · exact hy.1 z hz
theorem srtU_mem {z : Int} : ∀ {ns : List Int}, z ∈ srtU ns ↔ z ∈ ns
  | [] => by simp [srtU]
  | x :: ns => by
    show z ∈ insU x (srtU ns) ↔ _
    rw [insU_mem, srtU_mem, List.mem_cons]
theorem srtU_srt : ∀ ns : List Int, (srtU ns).Pairwise (· < ·)
  | [] => List.Pairwise.nil
  | x :: ns => insU_srt (srtU_srt ns)
theorem srt_uniq : ∀ {a b : List Int}, a.Pairwise (· < ·) → b.Pairwise (· < ·) → (∀ z, z ∈ a ↔ z ∈ b) → a = b
  | [], [], _, _, _ => rfl
  | [], y :: b, _, _, h => by have := (h y).mpr List.mem_cons_self; cases this
  | x :: a, [], _, _, h => by have := (h x).mp List.mem_cons_self; cases this
  | x :: a, y :: b, ha, hb, h => by
    have pa := List.pairwise_cons.mp ha
    have pb := List.pairwise_cons.mp hb
    have e : x = y := by
      have h1 := (h x).mp List.mem_cons_self
      have h2 := (h y).mpr List.mem_cons_self
      rcases List.mem_cons.mp h1 with h1 | h1
      · exact h1
      · rcases List.mem_cons.mp h2 with h2 | h2
        · exact h2.symm
        · have := pa.1 y h2
          have := pb.1 x h1
          omega
    subst e
    rw [srt_uniq pa.2 pb.2 fun z => ?_]
    constructor
    · intro hz
      rcases List.mem_cons.mp ((h z).mp (List.mem_cons_of_mem _ hz)) with e | e
      · have := pa.1 z hz; omega
      · exact e
    · intro hz
      rcases List.mem_cons.mp ((h z).mpr (List.mem_cons_of_mem _ hz)) with e | e
      · have := pb.1 z hz; omega
      · exact e
def rSetI (K : PySem.W.Frag) (w : World) : List V → Hp → VK → Prop := fun xs H Q => ∃ (p : Addr) (ns : List Int), xs = [.ref p] ∧ SqT K H p (ns.map V.int) ∧ ns.length ≤ 1000 ∧
  ∀ a c, H a = none → c ≤ ns.length → Q (.ref a) (upd H a (SetO w a (fun j => decide (j ∈ ns)) c))
theorem call_setI {X : Cx} (hc : X.calm = true) : CallR X (.type "set") (rSetI X.K X.w) := by
  intro pins s σ H xs us Q I r h
  obtain ⟨p, ns, rfl, hq, hl, q⟩ := h
  rw [Vals.ref1 r]
  obtain ⟨its, rv, pt, hz⟩ := I.tuple hq
  refine call_set_tupI ns (I.ok.hd hc) (show s.heap.IsTuple p its.toArray from pt) (ints_of_vals rv) (by unfold scanBound; omega) fun h' tk c R hcn k => ?_
  exact ⟨.ref s.heap.objs.size, _, I.laid (t' := tk) k (Nat.le_refl _) (setO_new R), rfl, q _ c (I.hok.fresh (Nat.le_refl _)) hcn⟩
def eSrtSet (m : ED) : ED := fun env S => (m env S).bind fun r => match r.1 with
  | .tuple ds => if r.2.1.rd && decide (ds.length ≤ 60) then (intsOf ds).map fun ns => (.list ((srtU ns).map .int), .fr, r.2.2) else none
  | _ => none
theorem dens_ints {P : Program} {w : World} {K : PySem.W.Frag} {N : Addr → Prop} {H : Hp} : ∀ ns : List Int, Dens P w K N H (ns.map V.int) (ns.map .int)
  | [] => .nil
  | n :: ns => .cons (.int n) (dens_ints ns)
section
variable {X : Cx} {e : Expr} {m : ED} {p p2 pos pos2 : Pos}
theorem ee_srtSet (hc : X.calm = true) (hg : Gl X "sorted") (hm : X.mg "sorted" = none) (hg2 : Gl X "set") (hm2 : X.mg "set" = none) (ha : EE X e m) (na : starEach [e] X.env = (false, eval e X.env) :: starEach [] X.env := by rfl)
    (nb : starEach [.Call (.Name "set" p2) [e] [] pos2] X.env = (false, eval (.Call (.Name "set" p2) [e] [] pos2) X.env) :: starEach [] X.env := by rfl) : EE X (.Call (.Name "sorted" p) [.Call (.Name "set" p2) [e] [] pos2] [] pos) (eSrtSet m) :=
  pe_wk (pe_callB (cr_sortedSet hc) hg hm (by decide +kernel) (pa_cons (pe_callTy (call_setI hc) hg2 hm2 (by decide +kernel) (pa_cons ha pa_nil na) (by decide) (by decide) na) pa_nil nb) (by decide) (by decide) nb) fun σ H Q ⟨W, env, S, ok, d, t, S', e, h⟩ => by
    obtain ⟨⟨d1, t1, S1⟩, e1, e⟩ := Option.bind_eq_some_iff.mp e
    dsimp only at e
    split at e
    case h_2 => cases e
    rename_i ds
    split at e
    case isFalse => cases e
    rename_i hz
    rw [Bool.and_eq_true, decide_eq_true_eq] at hz
    obtain ⟨ns, e2, e3⟩ := Option.map_eq_some_iff.mp e
    cases e3
    have hl := intsOf_len e2
    refine tEv.use ok e1 fun v H1 ok1 k1 s1 hv => ?_
    obtain ⟨a, vs, rfl, sq, t1, _⟩ := hv.tup hz.1
    rw [ints_of t1 e2] at sq
    refine ⟨a, ns, rfl, sq, by omega, fun b c hb hcn => ⟨b, _, c, rfl, upd_same, by omega, fun ns' q srt mem len hq => ?_⟩⟩
    have e4 : ns' = srtU ns := srt_uniq srt (srtU_srt ns) fun z => by
      rw [mem z, srtU_mem, decide_eq_true_eq]
    subst e4
    have hq1 : H1 q = none := by
      cases z : H1 q with
      | none => rfl
      | some u => rw [upd_ne (ne_of_none z hb), z] at hq; cases hq
    have kp : Kp W.S H1 (upd (upd H1 b (SetO X.w b (fun j => decide (j ∈ ns)) c)) q (.lst ((srtU ns).map V.int))) := fun x u n z => by
      rw [upd_ne (ne_of_none z hq1), upd_ne (ne_of_none z hb)]; exact z
    have nb : ¬ W.S b := fun z => ok1.fresh hb (SN z)
    have nq : ¬ W.S q := fun z => ok1.fresh hq1 (SN z)
    refine h _ _ (k1.trans kp) (src_upd (src_upd s1 nb) nq) ⟨q, rfl, ok.back k1 s1 hq1, .lst upd_same (dens_ints _)⟩
end

/-! ### xs[::-1] of a list -/
def eRev (m : ED) : ED := fun env S => (m env S).bind fun r => match r.1 with
  | .list ds => if r.2.1.rd then some (.list ds.reverse, .fr, r.2.2) else none
  | _ => none
theorem Dens.reverse {P : Program} {w : World} {K : PySem.W.Frag} {N : Addr → Prop} {H : Hp} : ∀ {vs : List V} {ds : List PyData}, Dens P w K N H vs ds → Dens P w K N H vs.reverse ds.reverse
  | _, _, .nil => .nil
  | _, _, .cons h t => by
    rw [List.reverse_cons, List.reverse_cons]
    exact (Dens.reverse t).snoc h
theorem ee_rev {X : Cx} {e : Expr} {m : ED} {k : Nat} {p1 p2 p3 pos : Pos} (he : EE X e m) : EE X (.Subscript e (.Slice none none (some (.UnaryOp .USub (.Constant (.int 1) k p1) p2)) p3) pos) (eRev m) := pe_wk (pe_revL he) fun σ H Q ⟨W, env, S, ok, d, t, S', e, h⟩ => by
  obtain ⟨⟨d1, t1, S1⟩, e1, e⟩ := Option.bind_eq_some_iff.mp e
  dsimp only at e
  split at e
  case h_2 => cases e
  split at e
  case isFalse => cases e
  rename_i hz
  cases e
  refine tEv.use ok e1 fun v H1 ok1 k1 s1 hv => ?_
  obtain ⟨a, vs, rfl, sq, t1⟩ := hv.lst hz
  refine ⟨a, vs, rfl, .inl (.inl sq), fun p hp => h _ _ (k1.trans (kp_new hp)) (src_new s1 hp) ?_⟩
  have := v_newL (P := X.prog) (w := X.w) (K := X.K) ok1 hp t1.reverse
  exact this.back ok k1 s1
end Ev

namespace Ev
open PySem PySem.Spec PyProof.Rows L2

/-! ### dict(a list of pairs) -/
/-- pairs with keys that can be asked for -/
def pairsOf : List PyData → Option (List (NestedKey × PyData))
  | [] => some []
  | .tuple [k, v] :: r => (nkO k).bind fun kk => if keyOk kk then (pairsOf r).map ((kk, v) :: ·) else none
  | _ :: _ => none
def isT : NestedKey → Bool
  | .tup _ => true
  | _ => false
def foldD (l : List (NestedKey × PyData)) : List (PyData × PyData) := l.foldl (fun acc p => putD acc p.1 p.2) []
section
variable {X : Cx} {pins : List (Addr × Obj)} {σ : L2.St} {H : Hp} {s : Shared} {N : Addr → Prop}
/-- the model's own pairs stand for the told ones -/
inductive PsR (P : Program) (w : World) (K : PySem.W.Frag) (N : Addr → Prop) (H : Hp) : List (NestedKey × Addr × Value) → List (NestedKey × PyData) → Prop
  | nil : PsR P w K N H [] []
  | cons {k : NestedKey} {b : Addr} {u : Value} {v : V} {d : PyData} {ps : List (NestedKey × Addr × Value)} {l : List (NestedKey × PyData)} :
      Den P w K N H (.ref b) k.data → k.depth ≤ 8 → RelV v u → Den P w K N H v d → PsR P w K N H ps l → PsR P w K N H ((k, b, u) :: ps) ((k, d) :: l)
theorem PsR.all {P : Program} {w : World} {K : PySem.W.Frag} {ps : List (NestedKey × Addr × Value)} {l : List (NestedKey × PyData)} (r : PsR P w K N H ps l) : ∀ {xs : List (NestedKey × Addr × Value)} {kvs : List (PyData × PyData)}, Ents P w K N H xs kvs →
    Ents P w K N H (storedAllH xs ps) (l.foldl (fun acc p => putD acc p.1 p.2) kvs) := by
  induction r with
  | nil => exact fun t => t
  | cons h1 h2 h3 h4 _ ih => exact fun t => ih (ents_put h1 h2 h3 h4 t)
theorem PsR.len {P : Program} {w : World} {K : PySem.W.Frag} {ps : List (NestedKey × Addr × Value)} {l : List (NestedKey × PyData)} (r : PsR P w K N H ps l) : ps.length = l.length := by
  induction r with
  | nil => rfl
  | cons h1 h2 h3 h4 _ ih => rw [List.length_cons, List.length_cons, ih]
theorem PsR.nky {ps : List (NestedKey × Addr × Value)} {l : List (NestedKey × PyData)} (r : PsR X.prog X.w X.K N H ps l) : ∀ x ∈ ps, NKy X.prog X.w X.K H x.2.1 x.1 := by
  induction r with
  | nil => exact fun _ h => nomatch h
  | cons h1 h2 h3 h4 _ ih =>
    intro x hx
    rcases List.mem_cons.mp hx with rfl | hx
    · exact ⟨h1.mono fun _ z => z.elim, h2⟩
    · exact ih x hx
theorem pairs_nested (I : Inv X pins σ H s) : ∀ {ds : List PyData} {vs : List V} {us : List Value} {l : List (NestedKey × PyData)}, Dens X.prog X.w X.K N H vs ds → Vals vs us → pairsOf ds = some l → l.all (fun p => isT p.1) = true →
    ∃ (Ts : List Addr) (ps : List (NestedKey × Addr × Value)), us = Ts.map Value.ref ∧ PsR X.prog X.w X.K N H ps l ∧ ps.length = Ts.length ∧ ∀ (j : Nat) (x : NestedKey × Addr × Value), ps[j]? = some x → ∃ T, Ts[j]? = some T ∧ s.heap.IsTuple T #[.ref x.2.1, x.2.2]
  | [], _, _, l, .nil, .nil, e, _ => by cases e; exact ⟨[], [], rfl, .nil, rfl, fun j x e => nomatch e⟩
  | d :: ds, _, _, l, .cons h t, .cons (b := u) (l₂ := us) r rr, e, al => by
    unfold pairsOf at e
    split at e
    · rename_i e0; cases e0
    · rename_i k0 v0 r0 e0
      cases e0
      obtain ⟨kk, e1, e⟩ := Option.bind_eq_some_iff.mp e
      split at e
      case isFalse => cases e
      rename_i hk
      obtain ⟨l', e2, e3⟩ := Option.map_eq_some_iff.mp e
      subst e3
      rw [List.all_cons, Bool.and_eq_true] at al
      obtain ⟨Ts, ps, f1, f2, f3, f4⟩ := pairs_nested I t rr e2 al.2
      cases h with
      | tup h0 t0 =>
        obtain ⟨its, rv, tp, _⟩ := I.tuple (sqT_of h0)
        obtain rfl : u = .ref _ := r
        cases t0 with
        | cons hk0 t1 =>
          cases t1 with
          | cons hv0 t2 =>
            cases t2
            obtain ⟨u1, u2, rfl, r1, r2⟩ := vals2 rv
            rw [← nkO_data e1] at hk0
            cases kk with
            | tup ks =>
              cases (show Den X.prog X.w X.K N H _ (.tuple (NestedKey.datas ks)) from hk0) with
              | @tup b vs _ g0 g1 =>
                obtain rfl : u1 = .ref b := r1
                refine ⟨_ :: Ts, (.tup ks, b, u2) :: ps, by rw [f1]; rfl, .cons (.tup g0 g1) (of_decide_eq_true hk) r2 hv0 f2, by rw [List.length_cons, List.length_cons, f3], fun j x ex => ?_⟩
                cases j with
                | zero => cases ex; exact ⟨_, rfl, tp⟩
                | succ j => exact f4 j x (by simpa using ex)
            | _ => cases al.1
    · cases e
theorem foldD_le : ∀ (l : List (NestedKey × PyData)) (kvs : List (PyData × PyData)), (l.foldl (fun acc p => putD acc p.1 p.2) kvs).length ≤ kvs.length + l.length
  | [], kvs => Nat.le_refl _
  | p :: l, kvs => by
    refine Nat.le_trans (foldD_le l _) ?_
    have : (putD kvs p.1 p.2).length ≤ kvs.length + 1 := by
      unfold putD
      split
      · rw [List.length_map]; omega
      · rw [List.length_append]; exact Nat.le_refl _
    show (putD kvs p.1 p.2).length + l.length ≤ _
    rw [List.length_cons]
    omega
def rDictN (P : Program) (w : World) (K : PySem.W.Frag) : List V → Hp → VK → Prop := fun xs H Q => ∃ (a : Addr) (vs : List V) (ds : List PyData) (l : List (NestedKey × PyData)) (N : Addr → Prop), xs = [.ref a] ∧ H a = some (.lst vs) ∧ Dens P w K N H vs ds ∧ pairsOf ds = some l ∧ l.all (fun p => isT p.1) = true ∧ l.length ≤ 16777216 ∧
  ∀ p ho, H p = none → (∀ (N' : Addr → Prop), (∀ b, N' b → N b ∨ b = p) → Ob P w K N' (upd H p ho) p (.dict (foldD l))) → Q (.ref p) (upd H p ho)
theorem call_dictN (hc : X.calm = true) (hu : X.A.units + 64 < cLine) : CallR X (.type "dict") (rDictN X.prog X.w X.K) := by
  intro pins s σ H xs us Q I r h
  obtain ⟨a, vs, ds, l, N, rfl, ha, t, e, al, sz, q⟩ := h
  rw [Vals.ref1 r]
  obtain ⟨_, its, n, rv, ho⟩ := (show ObjOk X.prog X.w H s.heap a (.lst vs) from I.hok a _ ha)
  obtain ⟨Ts, ps, f1, f2, f3, f4⟩ := pairs_nested I t rv e al
  subst f1
  have pl := f2.len
  let prs : List (Value × Value) := ps.map fun x => (.ref x.2.1, x.2.2)
  have items : PairItems s.heap (Ts.map Value.ref).toArray (fun j => Ts.getD j 0) prs := by
    refine ⟨by rw [List.size_toArray, List.length_map, List.length_map, f3], fun j k v ej => ?_⟩
    rw [List.getElem?_map] at ej
    obtain ⟨x, e1, e2⟩ := Option.map_eq_some_iff.mp ej
    cases e2
    obtain ⟨T, e3, e4⟩ := f4 j x e1
    have e5 : Ts.getD j 0 = T := by rw [List.getD_eq_getElem?_getD, e3]; rfl
    refine ⟨?_, .inl ?_⟩
    · show (Ts.map Value.ref).toArray[j]? = some (.ref (Ts.getD j 0))
      rw [List.getElem?_toArray, List.getElem?_map, e3, e5]
      rfl
    · show s.heap.IsTuple (Ts.getD j 0) _
      rw [e5]
      exact e4
  have hn : prs.length ≤ sizeLine := by rw [List.length_map, pl, sizeLine_eq]; exact sz
  refine call_dict_pairsH (knd := nestedKind X.prog X.w) (ps := ps) (PairArg.list a (Ts.map Value.ref).toArray (fun j => Ts.getD j 0) prs) (I.ok.hd hc) (by show X.A.in1.in1.units + 8 < cLine; have : X.A.in1.in1.units = X.A.units + 1 + 1 := rfl; omega) ⟨⟨_, n, ho, rfl, rfl, rfl⟩, items⟩ ⟨by rw [List.length_map], fun i key v rel => ?_⟩ (fun h' hk x hx => ?_) hn fun h' tk dd hk => ?_
  · have rel : (ps.map fun x => (Value.ref x.2.1, x.2.2))[i]? = some (key, v) := rel
    rw [List.getElem?_map] at rel
    obtain ⟨x, e1, e2⟩ := Option.map_eq_some_iff.mp rel
    cases e2
    exact ⟨x.1, x.2.1, e1, rfl⟩
  · refine nestedKind_stays.stays (fun b o vs n eb _ => hk b o ?_ (fun z => nomatch z) eb) (nky_is I (f2.nky x hx))
    exact Nat.ne_of_lt (Heap.lt_size eb)
  · have fresh := I.hok.fresh (Nat.le_refl s.heap.objs.size)
    obtain ⟨o, es, ep, g1, g2, g3, g4, _, g5⟩ := dd
    have kall : ∀ b o, s.heap.get? b = some o → h'.get? b = some o := fun b o e => hk b o (fun z => nomatch z) e
    have hd : (s.heap.objs.size == sysModules) = false := beq_eq_false_iff_ne.mpr (Nat.ne_of_gt I.big)
    refine ⟨.ref s.heap.objs.size, _, I.laid (o := rawO s.heap.objs.size o) (t' := tk) kall (Nat.le_refl _) ⟨g1, ⟨o, g1⟩, fun h1 h2 q1 q2 => q2 o q1⟩, rfl, q _ _ fresh fun N' hN' => ?_⟩
    have all := f2.all (xs := []) (kvs := []) .nil
    have ze : (storedAllH ([] : List (NestedKey × Addr × Value)) ps).length ≤ sizeLine := by
      rw [ents_len all]
      refine Nat.le_trans (foldD_le l []) ?_
      rw [sizeLine_eq, List.length_nil]; omega
    exact .dN upd_same hd g2 g3 g4 g5 ze (all.imp fun b u nb eb => ⟨fun z => (hN' b z).elim nb (ne_of_none eb fresh), (upd_ne (ne_of_none eb fresh)).trans eb⟩)
end
def fDict : OF
  | [(.list ds, t)] => if t.rd then (pairsOf ds).bind fun l => if l.all (fun p => isT p.1) && decide (l.length ≤ 16777216) then some (.dict (foldD l), .fr) else none else none
  | _ => none
theorem call_fDict {X : Cx} (hc : X.calm = true) (hu : X.A.units + 64 < cLine) : CallR X (.type "dict") (rFn X.prog X.w X.K fDict) := by
  intro pins s σ H xs us Q I r h
  obtain ⟨W, σ', env, S, Ha, ds, d, t, ok, hv, hr, e, q⟩ := h
  unfold fDict at e
  split at e
  case h_2 => cases e
  rename_i ls t0
  split at e
  case isFalse => cases e
  rename_i ht
  obtain ⟨l, e1, e⟩ := Option.bind_eq_some_iff.mp e
  split at e
  case isFalse => cases e
  rename_i hz
  rw [Bool.and_eq_true, decide_eq_true_eq] at hz
  cases e
  obtain ⟨v, rfl, h1⟩ := vs1 hv
  obtain ⟨a, vs, rfl, ea, ta⟩ := h1.lst ht
  refine call_dictN hc hu pins s σ H _ us Q I r ⟨a, vs, ls, l, W.N, rfl, ea, ta, e1, hz.1, hz.2, fun p ho hp ob => ?_⟩
  exact q _ _ (kp_new hp) (src_new ok.src hp) ⟨p, rfl, hp, ob _ fun b z => z⟩
end Ev

namespace Ev
open PySem PySem.Spec PyProof.Rows L2

/-! ### zip of two, strict -/
abbrev nextE := Builtin.SmallTypes.nextOrEnd
/-- a list (f) or a tuple (t) under its iterator -/
def SI (t : Bool) (h : Heap) (it l : Addr) (k : Nat) (xs : Array Value) : Prop := match t with
  | true => h.IsTupleIter it l k ∧ h.IsTuple l xs
  | false => h.IsListIter it l k ∧ h.IsList l xs
section
variable {t : Bool} {h h' : Heap} {it l x : Addr} {k : Nat} {xs : Array Value}
theorem SI.ext (q : SI t h it l k xs) (e : Heap.ExtBut x h h') (n1 : it ≠ x) (n2 : l ≠ x) : SI t h' it l k xs := by
  cases t with
  | true => exact ⟨q.1.extBut e n1, q.2.extBut e n2⟩
  | false => exact ⟨q.1.extBut e n1, q.2.extBut e n2⟩
theorem SI.keep (q : SI t h it l k xs) (n : ∀ c o, c = it ∨ c = l → h.get? c = some o → h'.get? c = some o) : SI t h' it l k xs := by
  cases t with
  | true => exact ⟨q.1.at fun o e => n it o (.inl rfl) e, q.2.at fun o e => n l o (.inr rfl) e⟩
  | false => exact ⟨q.1.at fun o e => n it o (.inl rfl) e, q.2.at fun o e => n l o (.inr rfl) e⟩
theorem SI.there (q : SI t h it l k xs) : ∃ o, h.get? it = some o ∧ ∀ v, o.data ≠ .cell v := by
  cases t with
  | true => obtain ⟨⟨o, e, _, d⟩, _⟩ := q; exact ⟨o, e, fun v z => by rw [d] at z; cases z⟩
  | false => obtain ⟨⟨o, e, _, d⟩, _⟩ := q; exact ⟨o, e, fun v z => by rw [d] at z; cases z⟩
end
section
variable {prog : Program} {w : World} {A : Around} {E : Value → Shared → Prop} {s : Shared} {t : Bool} {it l : Addr} {k : Nat} {xs : Array Value}
theorem SI.item {v : Value} {Q : Option Value → Shared → Prop} (q : SI t s.heap it l k xs) (ne : l ≠ it) (hv : xs[k]? = some v) (hQ : ∀ h', SI t h' it l (k + 1) xs → Heap.SameBut it s.heap h' → Q (some v) { s with heap := h' }) :
    wpAny (model prog w) A (nextE (.ref it)) Q E s := by
  unfold nextE Builtin.SmallTypes.nextOrEnd
  refine wpAny_bind (wpAny_attempt ?_)
  cases t with
  | true => exact RZ.nextOf_tuple_item q.1 q.2 hv fun h' i sb => wpAny_pure (hQ h' ⟨i, q.2.extBut sb.extBut ne⟩ sb)
  | false => exact wpAny_nextOf_list_item q.1 q.2 hv fun h' i sb => wpAny_pure (hQ h' ⟨i, q.2.extBut sb.extBut ne⟩ sb)
theorem SI.fin {Q : Option Value → Shared → Prop} (hh : A.handled = none) (q : SI t s.heap it l k xs) (hv : xs[k]? = none) (hQ : ∀ h', Heap.ExtBut it s.heap h' → Q none { s with heap := h' }) :
    wpAny (model prog w) A (nextE (.ref it)) Q E s := by
  have done : ∀ (h' : Heap) (e : Addr), Heap.ExtBut it s.heap h' → (∃ o, h'.get? e = some o ∧ o.cls = .type "StopIteration") →
      wpAny (model prog w) A (do if ← isInstance (.ref e) (.type "StopIteration") then pure none else throw (Value.ref e) : Sem (Option Value)) Q E { s with heap := h' } := fun h' e x ⟨o, ho, hc⟩ =>
    wpAny_bind (wpAny_isInstance (T := "StopIteration") (b := true) ⟨o, ho, hc⟩ isSubtype_stop (wpAny_pure (hQ h' x)))
  unfold nextE Builtin.SmallTypes.nextOrEnd
  refine wpAny_bind (wpAny_attempt ?_)
  cases t with
  | true => exact RZ.nextOf_tuple_end hh q.1 q.2 hv done
  | false => exact wpAny_nextOf_list_end hh q.1 q.2 hv done
end
/-- the zip object -/
def ZS (h : Heap) (z a b : Addr) (f : Value) : Prop := h.get? z = some { cls := .type "zip", data := .fields #[f, .bool false, .bool true, .ref a, .ref b] }
structure ZApart (z a b i j l m : Addr) : Prop where
  az : a ≠ z
  bz : b ≠ z
  iz : i ≠ z
  jz : j ≠ z
  ab : a ≠ b
  ai : a ≠ i
  aj : a ≠ j
  bi : b ≠ i
  bj : b ≠ j
  ij : i ≠ j
  lz : l ≠ z
  lb : l ≠ b
  li : l ≠ i
  lj : l ≠ j
  mz : m ≠ z
  mb : m ≠ b
  mi : m ≠ i
  mj : m ≠ j
section
variable {prog : Program} {w : World} {A : Around} {E : Value → Shared → Prop} {s : Shared} {t u : Bool} {z a b i j l m : Addr} {k : Nat} {xs ys : Array Value} {x y p q : Value}
theorem zs_item {Q : Value → Shared → Prop} (D : ZApart z a b i j l m) (hz : ZS s.heap z a b .none) (ha : IsPair s.heap a (.ref i) (.ref j)) (hb : IsPair s.heap b p q) (h1 : SI t s.heap i l k xs) (h2 : SI u s.heap j m k ys) (hx : xs[k]? = some x) (hy : ys[k]? = some y)
    (hQ : ∀ h', ZS h' z a b (rawInt s.heap.objs.size) → IsPair h' b x y → SI t h' i l (k + 1) xs → SI u h' j m (k + 1) ys → IsPair h' s.heap.objs.size x y →
      (∀ c o, c ≠ z → c ≠ b → c ≠ i → c ≠ j → s.heap.get? c = some o → h'.get? c = some o) → Q (.ref s.heap.objs.size) { s with heap := h' }) :
    wpAny (model prog w) A (Builtin.«zip.__next__» ⟨[.ref z], []⟩) (fun fin s' => ∃ v, fin = .done (.ret v) ∧ Q v s') E s := by
  unfold ZS at hz
  show wpAny _ A (field (.ref z) 2 >>= _) _ E s
  refine wpAny_bind (wpAny_field hz rfl (x := .bool true) rfl ?_)
  show wpAny _ A (field (.ref z) 3 >>= _) _ E s
  refine wpAny_bind (wpAny_field hz rfl (x := .ref a) rfl (wpAny_bind (wpAny_seqItems ha rfl ?_)))
  show wpAny _ A (Builtin.SmallTypes.ownedTupleIsFree (.ref z) >>= _) _ E s
  unfold Builtin.SmallTypes.ownedTupleIsFree
  refine wpAny_bind (wpAny_bind (wpAny_field hz rfl (x := .none) rfl (wpAny_pure ?_)))
  simp only [if_true]
  refine wpAny_bind (wpAny_rule (wpAny_bind (wpAny_field hz rfl (x := .ref b) rfl (wpAny_bind (wpAny_setField_rec hz (by simp) fun g1 z1 s1 => ?_)))))
  replace z1 : ZS g1 z a b .ellipsis := z1
  refine wpAny_bind ?_
  simp only [List.zipIdx_cons, List.zipIdx_nil, List.forIn_cons, List.forIn_nil]
  refine wpAny_bind (wpAny_bind (wpAny_onRaise ?_))
  show wpAny _ A (nextE (.ref i)) _ _ _
  refine (h1.ext s1.extBut D.iz D.lz).item D.li hx fun g2 i2 s2 => ?_
  have b2 : IsPair g2 b p q := s2.extBut _ _ D.bi (s1.extBut _ _ D.bz hb)
  refine wpAny_bind (wpAny_seqItems b2 rfl (wpAny_bind (wpAny_updateSeq_pair b2 fun g3 b3 s3 => wpAny_bind (wpAny_letGo (wpAny_pure ?_)))))
  replace b3 : IsPair g3 b x q := b3
  refine wpAny_bind (wpAny_bind (wpAny_onRaise ?_))
  show wpAny _ A (nextE (.ref j)) _ _ _
  refine (((h2.ext s1.extBut D.jz D.mz).ext s2.extBut D.ij.symm D.mi).ext s3.extBut D.bj.symm D.mb).item D.mj hy fun g4 j4 s4 => ?_
  have b4 : IsPair g4 b x q := s4.extBut _ _ D.bj b3
  refine wpAny_bind (wpAny_seqItems b4 rfl (wpAny_bind (wpAny_updateSeq_pair b4 fun g5 b5 s5 => wpAny_bind (wpAny_letGo (wpAny_pure (wpAny_pure ?_))))))
  replace b5 : IsPair g5 b x y := b5
  refine wpAny_bind (wpAny_seqItems b5 rfl (wpAny_bind (wpAny_newTuple ?_)))
  have size : g5.objs.size = s.heap.objs.size := by rw [s5.1, s4.1, s3.1, s2.1, s1.1]
  have z5 : ZS g5 z a b .ellipsis := s5.extBut _ _ D.bz.symm (s4.extBut _ _ D.jz.symm (s3.extBut _ _ D.bz.symm (s2.extBut _ _ D.iz.symm z1)))
  have k5 : ∀ c o, c ≠ z → c ≠ b → c ≠ i → c ≠ j → s.heap.get? c = some o → g5.get? c = some o := fun c o c1 c2 c3 c4 e =>
    s5.extBut _ _ c2 (s4.extBut _ _ c4 (s3.extBut _ _ c2 (s2.extBut _ _ c3 (s1.extBut _ _ c1 e))))
  have i5 := ((i2.ext s3.extBut D.bi.symm D.lb).ext s4.extBut D.ij D.lj).ext s5.extBut D.bi.symm D.lb
  have j5 := j4.ext s5.extBut D.bj.symm D.mb
  have zl : z < g5.objs.size := Heap.lt_size z5
  show wpAny _ A (Builtin.SmallTypes.ownedTupleHandOut (.ref z) (.ref g5.objs.size) >>= _) _ E _
  unfold Builtin.SmallTypes.ownedTupleHandOut
  have z6 : ZS (g5.push { cls := .type "tuple", data := .seq #[x, y] }) z a b .ellipsis := Heap.get?_push_of_some _ z5
  unfold ZS at z6
  refine wpAny_bind (wpAny_bind (wpAny_setField_rec z6 (by simp) fun g7 z7 s7 => ?_))
  replace z7 : ZS g7 z a b (rawInt g5.objs.size) := z7
  unfold ZS at z7
  refine wpAny_setField_rec z7 (by simp) fun g8 z8 s8 => ?_
  replace z8 : ZS g8 z a b (rawInt g5.objs.size) := z8
  have up : ∀ c o, c ≠ z → g5.get? c = some o → g8.get? c = some o := fun c o c1 e => s8.extBut _ _ c1 (s7.extBut _ _ c1 (Heap.get?_push_of_some _ e))
  have t8 : IsPair g8 g5.objs.size x y := s8.extBut _ _ (Nat.ne_of_gt zl) (s7.extBut _ _ (Nat.ne_of_gt zl) (Heap.get?_push_size _ rfl))
  rw [size] at z8 t8
  refine wpAny_pure ⟨_, rfl, ?_⟩
  show Q (.ref g5.objs.size) _
  rw [size]
  refine hQ g8 z8 (up _ _ D.bz b5) (i5.keep fun c o hc e => up c o ?_ e) (j5.keep fun c o hc e => up c o ?_ e) t8 fun c o c1 c2 c3 c4 e => up c o c1 (k5 c o c1 c2 c3 c4 e)
  · rcases hc with hc | hc
    · rw [hc]; exact D.iz
    · rw [hc]; exact D.lz
  · rcases hc with hc | hc
    · rw [hc]; exact D.jz
    · rw [hc]; exact D.mz
/-- raise StopIteration -/
theorem stop_it {α : Type} {Q : α → Shared → Prop} (hh : A.handled = none) (hE : ∀ h' e, (∀ c o, s.heap.get? c = some o → h'.get? c = some o) → (∃ o, h'.get? e = some o ∧ o.cls = .type "StopIteration") → E (.ref e) { s with heap := h' }) :
    wpAny (model prog w) A (Builtin.SmallTypes.stopIteration : Sem α) Q E s := by
  unfold Builtin.SmallTypes.stopIteration
  refine wpAny_bind ?_
  simp only [newExc, newTuple]
  refine wpAny_bind (wpAny_newObj_type (wpAny_bind (m := firstArgMember _ _) (wpAny_of_eq (a := Value.none) (by first | rfl | (simp only [firstArgMember]; rfl)) (wpAny_newObj_type ?_ (by size_fits)))) (by size_fits))
  simp only [raiseNew]
  refine wpAny_bind (wpAny_handled ?_)
  rw [hh]
  exact wpAny_bind (wpAny_pure (wpAny_throw (hE _ _ (fun c o q => Heap.get?_push_of_some _ (Heap.get?_push_of_some _ q)) ⟨_, Heap.get?_push_size _ rfl, rfl⟩)))
theorem zs_fin {Q : Fin → Shared → Prop} (hh : A.handled = none) (D : ZApart z a b i j l m) (hz : ZS s.heap z a b .none) (ha : IsPair s.heap a (.ref i) (.ref j)) (hb : IsPair s.heap b p q) (h1 : SI t s.heap i l k xs) (h2 : SI u s.heap j m k ys) (hx : xs[k]? = none) (hy : ys[k]? = none)
    (hE : ∀ h' e, (∀ c o, c ≠ z → c ≠ b → c ≠ i → c ≠ j → s.heap.get? c = some o → h'.get? c = some o) → (∃ o, h'.get? e = some o ∧ o.cls = .type "StopIteration") → E (.ref e) { s with heap := h' }) :
    wpAny (model prog w) A (Builtin.«zip.__next__» ⟨[.ref z], []⟩) Q E s := by
  unfold ZS at hz
  show wpAny _ A (field (.ref z) 2 >>= _) _ E s
  refine wpAny_bind (wpAny_field hz rfl (x := .bool true) rfl ?_)
  show wpAny _ A (field (.ref z) 3 >>= _) _ E s
  refine wpAny_bind (wpAny_field hz rfl (x := .ref a) rfl (wpAny_bind (wpAny_seqItems ha rfl ?_)))
  show wpAny _ A (Builtin.SmallTypes.ownedTupleIsFree (.ref z) >>= _) _ E s
  unfold Builtin.SmallTypes.ownedTupleIsFree
  refine wpAny_bind (wpAny_bind (wpAny_field hz rfl (x := .none) rfl (wpAny_pure ?_)))
  simp only [if_true]
  refine wpAny_bind (wpAny_rule (wpAny_bind (wpAny_field hz rfl (x := .ref b) rfl (wpAny_bind (wpAny_setField_rec hz (by simp) fun g1 z1 s1 => ?_)))))
  replace z1 : ZS g1 z a b .ellipsis := z1
  refine wpAny_bind ?_
  simp only [List.zipIdx_cons, List.zipIdx_nil, List.forIn_cons, List.forIn_nil]
  refine wpAny_bind (wpAny_bind (wpAny_onRaise ?_))
  show wpAny _ A (nextE (.ref i)) _ _ _
  refine (h1.ext s1.extBut D.iz D.lz).fin hh hx fun g2 s2 => ?_
  have z2 : ZS g2 z a b .ellipsis := s2 _ _ D.iz.symm z1
  unfold ZS at z2
  refine wpAny_bind (wpAny_setField_rec z2 (by simp) fun g3 z3 s3 => ?_)
  refine wpAny_bind ?_
  show wpAny _ A (do
    for (it, n) in ([Value.ref j] : List Value).zipIdx 1 do
      if (← nextE it).isSome then
        rule "zip.__next__.longer"; raiseError "ValueError" s!"zip() argument {n + 1} is longer than {if n == 1 then "argument 1" else s!"arguments 1-{n}"}"
    rule "zip.__next__.all-ended"; Builtin.SmallTypes.stopIteration : Sem PySem.Fin) _ E _
  simp only [List.zipIdx_cons, List.zipIdx_nil, List.forIn_cons, List.forIn_nil]
  refine wpAny_bind (wpAny_bind (wpAny_bind ?_))
  have j3 : SI u g3 j m k ys := ((h2.ext s1.extBut D.jz D.mz).ext s2 D.ij.symm D.mi).ext s3.extBut D.jz D.mz
  refine j3.fin hh hy fun g4 s4 => ?_
  refine wpAny_pure (wpAny_pure (wpAny_bind (wpAny_rule ?_)))
  refine stop_it hh fun h' e kp he => hE h' e (fun c o c1 c2 c3 c4 q => kp c o (s4 c o c4 (s3.extBut c o c1 (s2 c o c3 (s1.extBut c o c1 q))))) he
theorem zs_next {Q : Option Value → Shared → Prop} (D : ZApart z a b i j l m) (hz : ZS s.heap z a b .none) (ha : IsPair s.heap a (.ref i) (.ref j)) (hb : IsPair s.heap b p q) (h1 : SI t s.heap i l k xs) (h2 : SI u s.heap j m k ys) (hx : xs[k]? = some x) (hy : ys[k]? = some y)
    (hQ : ∀ h', ZS h' z a b (rawInt s.heap.objs.size) → IsPair h' b x y → SI t h' i l (k + 1) xs → SI u h' j m (k + 1) ys → IsPair h' s.heap.objs.size x y →
      (∀ c o, c ≠ z → c ≠ b → c ≠ i → c ≠ j → s.heap.get? c = some o → h'.get? c = some o) → Q (some (.ref s.heap.objs.size)) { s with heap := h' }) :
    wpAny (model prog w) A (pyNext (.ref z)) Q E s := by
  have ty : s.TypeIs (.ref z) "zip" := ⟨_, hz, rfl⟩
  unfold pyNext
  refine wpAny_bind (wpAny_attempt (wpAny_callSpecial?_slot (name := Str.ofString "__next__") ty F.slot_zip_next (wpAny_call_entry F.slot_zip_next ty F.entry_zip_next ?_ (F.args_zip_next_1 _))))
  exact zs_item D hz ha hb h1 h2 hx hy fun h' a1 a2 a3 a4 a5 a6 => wpAny_pure (hQ h' a1 a2 a3 a4 a5 a6)
theorem zs_none {Q : Option Value → Shared → Prop} (hh : A.handled = none) (D : ZApart z a b i j l m) (hz : ZS s.heap z a b .none) (ha : IsPair s.heap a (.ref i) (.ref j)) (hb : IsPair s.heap b p q) (h1 : SI t s.heap i l k xs) (h2 : SI u s.heap j m k ys) (hx : xs[k]? = none) (hy : ys[k]? = none)
    (hQ : ∀ h', (∀ c o, c ≠ z → c ≠ b → c ≠ i → c ≠ j → s.heap.get? c = some o → h'.get? c = some o) → Q none { s with heap := h' }) : wpAny (model prog w) A (pyNext (.ref z)) Q E s := by
  have ty : s.TypeIs (.ref z) "zip" := ⟨_, hz, rfl⟩
  unfold pyNext
  refine wpAny_bind (wpAny_attempt (wpAny_callSpecial?_slot (name := Str.ofString "__next__") ty F.slot_zip_next (wpAny_call_entry F.slot_zip_next ty F.entry_zip_next ?_ (F.args_zip_next_1 _))))
  refine zs_fin hh D hz ha hb h1 h2 hx hy fun h' e kp he => ?_
  obtain ⟨o, ho, hc⟩ := he
  exact wpAny_bind (wpAny_isInstance (T := "StopIteration") (b := true) ⟨o, ho, hc⟩ isSubtype_stop (wpAny_pure (hQ _ kp)))
/-- the store ahead of which the pair is let go -/
theorem zs_go {elts : List Expr} {kk : Nat} {pos : Pos} {T : Addr} {Q : Unit → Shared → Prop} (hz : ZS s.heap z a b (rawInt T)) (hQ : ∀ h', ZS h' z a b .none → Heap.SameBut z s.heap h' → Q () { s with heap := h' }) :
    wpAny (model prog w) A (letOwnedTupleGo (.Tuple elts kk pos) (.ref z) (.ref T)) Q E s := by
  unfold ZS at hz
  unfold letOwnedTupleGo
  refine wpAny_bind (wpAny_load hz ?_)
  show wpAny _ A (if (["enumerate", "zip", "dict_itemiterator", "dict_reverseitemiterator", "odict_iterator", "itertools.zip_longest", "itertools.pairwise"].contains "zip" && (#[rawInt T, .bool false, .bool true, .ref a, .ref b] : Array Value)[0]? == some (rawInt T)) = true then _ else _) Q E s
  rw [if_pos (by simp)]
  refine wpAny_bind (wpAny_rule ?_)
  show wpAny _ A (setField (.ref z) 0 .none) Q E s
  exact wpAny_setField_rec hz (by simp) fun h' z' sb => hQ h' z' sb
theorem zs_self {f : Value} {Q : Value → Shared → Prop} (hz : ZS s.heap z a b f) (h : Q (.ref z) s) : wpAny (model prog w) A (pyIter (.ref z)) Q E s := by
  have ty : s.TypeIs (.ref z) "zip" := ⟨_, hz, rfl⟩
  refine wpAny_pyIter_slot ty F.slot_zip_iter (wpAny_call_entry F.slot_zip_iter ty F.entry_zip_iter ?_ (F.args_zip_iter_1 _))
  show wpAny (model prog w) A.in1 (ret (.ref z)) _ E s
  exact wpAny_pure ⟨_, rfl, "zip", _, ty, F.slot_zip_next.lookup, h⟩
end
/-- zip(v, u, strict=True) -/
theorem zs_typeCall (v u : Value) : checkTypeCall "zip" ⟨[v, u], [(Str.ofString "strict", .bool true)]⟩ = pure () := by kernel_rfl
theorem zs_newCall (v u : Value) : checkBuiltinCall "zip.__new__" ⟨[.type "zip", v, u], [(Str.ofString "strict", .bool true)]⟩ = pure () := by kernel_rfl
theorem zs_init (o v u : Value) : argsOk "object.__init__" ⟨[o, v, u], [(Str.ofString "strict", .bool true)]⟩ := by unfold argsOk; kernel_rfl
def itO (t : Bool) (l : Addr) : Obj := if t then { cls := .type "tuple_iterator", data := .fields #[.ref l, .int 0 0] } else { cls := .type "list_iterator", data := .fields #[.ref l, .int 0 0] }
def SeqO (t : Bool) (h : Heap) (l : Addr) (xs : Array Value) : Prop := if t then h.IsTuple l xs else h.IsList l xs
theorem begO (t : Bool) (l : Addr) (xs : Array Value) : Begins (.ref l) (itO t l) fun h => SeqO t h l xs := by
  cases t with
  | true => exact begins_tuple l xs
  | false => exact begins_list l xs
theorem SI.new {t : Bool} {h : Heap} {it l : Addr} {xs : Array Value} (e : h.get? it = some (itO t l)) (q : SeqO t h l xs) : SI t h it l 0 xs := by
  cases t with
  | true => exact ⟨⟨_, e, rfl, rfl⟩, q⟩
  | false => exact ⟨⟨_, e, rfl, rfl⟩, q⟩
theorem zs_meets {v u : Value} {o1 o2 : Obj} {H1 H2 : Heap → Prop} (B1 : Begins v o1 H1) (B2 : Begins u o2 H2) :
    Meets (Builtin.«zip.__new__» ⟨[.type "zip", v, u], [(Str.ofString "strict", .bool true)]⟩) (fun _ R s => (H1 s.heap ∧ H2 s.heap) ∧
      R (.ok (.ret (.ref (gzO2 s.heap o1 o2).objs.size))) { s with heap := (gzO2 s.heap o1 o2).push { cls := .type "zip", data := .fields #[.none, .bool false, .bool true, .ref ((s.heap.push o1).push o2).objs.size, .ref (gzT2 s.heap o1 o2).objs.size] } }) :=
  .of_wp fun prog w A R s q => by
    obtain ⟨hp, g, d, tk, os⟩ := s
    obtain ⟨⟨q1, q2⟩, q⟩ := q
    have less := sub_zip
    have i1 : ∀ {A' : Around} {E : Value → Shared → Prop} {Q : Value → Shared → Prop}, Q (.ref hp.objs.size) ⟨hp.push o1, g, d, tk, os⟩ → wpAny (model prog w) A' (pyIter v) Q E ⟨hp, g, d, tk, os⟩ :=
      fun z => B1.iter prog w _ _ ⟨hp, g, d, tk, os⟩ _ q1 z
    have i2 : ∀ {A' : Around} {E : Value → Shared → Prop} {Q : Value → Shared → Prop}, Q (.ref (hp.push o1).objs.size) ⟨(hp.push o1).push o2, g, d, tk, os⟩ → wpAny (model prog w) A' (pyIter u) Q E ⟨hp.push o1, g, d, tk, os⟩ :=
      fun z => B2.iter prog w _ _ ⟨hp.push o1, g, d, tk, os⟩ _ (B2.keeps _ _ q2 fun b o' e => Heap.get?_push_of_some _ e) z
    wp_walk using i1, i2
    exact ⟨_, rfl, q⟩
/-- what a zip, strict, of two walks: a, b as they stand, of one length -/
def ItzS (K : PySem.W.Frag) (t u : Bool) (a b : Addr) : It :=
  let Sq := fun (c : Bool) (H : Hp) (p : Addr) (xs : List V) => if c then SqT K H p xs else SqL K H p xs
  ⟨fun i H => ∃ (xs ys : List V) (x y : V), Sq t H a xs ∧ Sq u H b ys ∧ xs[i]? = some x ∧ ys[i]? = some y,
    fun i H v H' => ∃ T x y, v = .ref T ∧ H T = none ∧ H' = upd H T (.tup [x, y]) ∧ (∀ xs, Sq t H a xs → xs[i]? = some x) ∧ ∀ ys, Sq u H b ys → ys[i]? = some y,
    fun i H => ∃ xs ys : List V, Sq t H a xs ∧ Sq u H b ys ∧ xs.length ≤ i ∧ ys.length ≤ i⟩
section
variable {X : Cx} {pins : List (Addr × Obj)} {σ : L2.St} {H : Hp} {s : Shared} {a : Addr} {xs ys : List V} {c : Bool}
theorem sq_get (I : Inv X pins σ H s) (h : if c then SqT X.K H a xs else SqL X.K H a xs) : ∃ its : List Value, Vals xs its ∧ SeqO c s.heap a its.toArray := by
  cases c with
  | true => obtain ⟨its, r, p, _⟩ := I.tuple h; exact ⟨its, r, p⟩
  | false => obtain ⟨its, r, p, _⟩ := I.list h; exact ⟨its, r, p.isList⟩
theorem sq_inj (I : Inv X pins σ H s) (h : if c then SqT X.K H a xs else SqL X.K H a xs) (h' : if c then SqT X.K H a ys else SqL X.K H a ys) : xs = ys := by
  cases c with
  | true => exact I.tuple_inj h h'
  | false => exact I.list_inj h h'
end
def SI0 (t : Bool) (h : Heap) (it l : Addr) (k : Nat) : Prop := if t then h.IsTupleIter it l k else h.IsListIter it l k
theorem SI.of0 {t : Bool} {h : Heap} {it l : Addr} {k : Nat} {xs : Array Value} (q : SI0 t h it l k) (r : SeqO t h l xs) : SI t h it l k xs := by
  cases t with
  | true => exact ⟨q, r⟩
  | false => exact ⟨q, r⟩
theorem SI.to0 {t : Bool} {h : Heap} {it l : Addr} {k : Nat} {xs : Array Value} (q : SI t h it l k xs) : SI0 t h it l k := by
  cases t with
  | true => exact q.1
  | false => exact q.1
theorem SI0.keep {t : Bool} {h h' : Heap} {it l : Addr} {k : Nat} (q : SI0 t h it l k) (n : ∀ o, h.get? it = some o → h'.get? it = some o) : SI0 t h' it l k := by
  cases t with
  | true => exact (show h.IsTupleIter it l k from q).at fun o e => n o e
  | false => exact (show h.IsListIter it l k from q).at fun o e => n o e
theorem SI0.obj {t : Bool} {h : Heap} {it l : Addr} {k : Nat} (q : SI0 t h it l k) : ∃ o, h.get? it = some o ∧ ∀ v, o.data ≠ .cell v := by
  cases t with
  | true => obtain ⟨o, e, _, d⟩ := (show h.IsTupleIter it l k from q); exact ⟨o, e, fun v z => by rw [d] at z; cases z⟩
  | false => obtain ⟨o, e, _, d⟩ := (show h.IsListIter it l k from q); exact ⟨o, e, fun v z => by rw [d] at z; cases z⟩
theorem turn_zs {P : Program} {w : World} {K : PySem.W.Frag} {elts : List Expr} {kk : Nat} {tpos : Pos} {t u : Bool} {z a b i j l m : Addr} (D : ZApart z a b i j l m) :
    Turn P w K (.Tuple elts kk tpos) (ItzS K t u l m) [z, a, b, i, j] z (fun n h => ZS h z a b .none ∧ IsPair h a (.ref i) (.ref j) ∧ (∃ x y, IsPair h b x y) ∧ SI0 t h i l n ∧ SI0 u h j m n) where
  mem := List.mem_cons_self ..
  obj := fun n h st c hc => by
    obtain ⟨hz, ha, ⟨x, y, hb⟩, h1, h2⟩ := st
    simp only [List.mem_cons, List.not_mem_nil, or_false] at hc
    rcases hc with q | q | q | q | q <;> rw [q]
    · exact ⟨_, hz, fun v q => nomatch q⟩
    · exact ⟨_, ha, fun v q => nomatch q⟩
    · exact ⟨_, hb, fun v q => nomatch q⟩
    · exact h1.obj
    · exact h2.obj
  keep := fun n h h' st kp => by
    obtain ⟨hz, ha, ⟨x, y, hb⟩, h1, h2⟩ := st
    exact ⟨kp z (by simp) _ hz, kp a (by simp) _ ha, ⟨x, y, kp b (by simp) _ hb⟩, h1.keep fun o e => kp i (by simp) o e, h2.keep fun o e => kp j (by simp) o e⟩
  item := by
    intro X e1 e2 e3 hc n pins s σ H E I hf st hg
    subst e1 e2 e3
    obtain ⟨hz, ha, ⟨p, q, hb⟩, h1, h2⟩ := st
    obtain ⟨xs, ys, x, y, q1, q2, hx, hy⟩ := hg
    obtain ⟨us, r1, o1⟩ := sq_get I q1
    obtain ⟨vs, r2, o2⟩ := sq_get I q2
    obtain ⟨g, hg, rg⟩ := r1.get hx
    obtain ⟨g', hg', rg'⟩ := r2.get hy
    have zl : z < s.heap.objs.size := Heap.lt_size hz
    refine zs_next D hz ha hb (SI.of0 h1 o1) (SI.of0 h2 o2) (x := g) (y := g') (by simpa using hg) (by simpa using hg') fun h' z' b' i' j' hT kp => ?_
    refine ⟨_, rfl, zs_go (s := { s with heap := h' }) z' fun h'' z'' sb => ?_⟩
    have hT2 : h''.get? s.heap.objs.size = some { cls := .type "tuple", data := .seq #[g, g'] } := (sb.2 _ (Nat.ne_of_gt zl)).trans hT
    have new : ObjOk X.prog X.w (upd H s.heap.objs.size (.tup [x, y])) h'' s.heap.objs.size (.tup [x, y]) := ⟨by show 2 ≤ sizeLine; decide, [g, g'], .cons rg (.cons rg' .nil), ⟨_, hT2, rfl, _, rfl⟩⟩
    have I1 : Inv X pins σ (upd H s.heap.objs.size (.tup [x, y])) { s with heap := h'' } :=
      I.turnedNew (t' := s.toks) (ch := [z, a, b, i, j]) (fun c o hb q => by
        simp only [List.mem_cons, List.not_mem_nil, or_false, not_or] at hb
        exact (sb.2 c hb.1).trans (kp c o hb.1 hb.2.2.1 hb.2.2.2.1 hb.2.2.2.2 q)) hf (Nat.le_refl _) new
    refine ⟨.ref s.heap.objs.size, _, I1, rfl, ⟨_, x, y, rfl, I.hok.fresh (Nat.le_refl _), rfl, fun ws hw => by rw [sq_inj I hw q1]; exact hx, fun ws hw => by rw [sq_inj I hw q2]; exact hy⟩, ⟨z'', ?_, ⟨g, g', (sb.2 _ D.bz).trans b'⟩, i'.to0.keep fun o q => (sb.2 _ D.iz).trans q, j'.to0.keep fun o q => (sb.2 _ D.jz).trans q⟩, fun c hc => ?_⟩
    · exact (sb.2 _ D.az).trans (kp _ _ D.az D.ab D.ai D.aj ha)
    · obtain ⟨o, ho, _⟩ : ∃ o, s.heap.get? c = some o ∧ True := by
        simp only [List.mem_cons, List.not_mem_nil, or_false] at hc
        rcases hc with q | q | q | q | q <;> rw [q]
        · exact ⟨_, hz, trivial⟩
        · exact ⟨_, ha, trivial⟩
        · exact ⟨_, hb, trivial⟩
        · obtain ⟨o, e, _⟩ := h1.obj; exact ⟨o, e, trivial⟩
        · obtain ⟨o, e, _⟩ := h2.obj; exact ⟨o, e, trivial⟩
      rw [upd_ne (Nat.ne_of_lt (Heap.lt_size ho))]
      exact (hf c hc).1
  done := by
    intro X e1 e2 e3 hc n pins s σ H E I hf st hg
    subst e1 e2 e3
    obtain ⟨hz, ha, ⟨p, q, hb⟩, h1, h2⟩ := st
    obtain ⟨xs, ys, q1, q2, hx, hy⟩ := hg
    obtain ⟨us, r1, o1⟩ := sq_get I q1
    obtain ⟨vs, r2, o2⟩ := sq_get I q2
    have l1 := r1.length
    have l2 := r2.length
    refine zs_none (I.ok.hd hc) D hz ha hb (SI.of0 h1 o1) (SI.of0 h2 o2) (by rw [List.getElem?_toArray, List.getElem?_eq_none (by omega)]) (by rw [List.getElem?_toArray, List.getElem?_eq_none (by omega)]) fun h' kp => ⟨rfl, I.turnedL (t' := s.toks) (ch := [z, a, b, i, j]) (fun c o hb q => ?_) hf⟩
    simp only [List.mem_cons, List.not_mem_nil, or_false, not_or] at hb
    exact kp c o hb.1 hb.2.2.1 hb.2.2.2.1 hb.2.2.2.2 q
  self := fun A n s Q E st h => zs_self st.1 h
/-- its call: five new cells -/
theorem zs_call {prog : Program} {w : World} {A : Around} {E : Value → Shared → Prop} {s : Shared} {t u : Bool} {l m : Addr} {xs ys : Array Value} {Q : Value → Shared → Prop} (h1 : SeqO t s.heap l xs) (h2 : SeqO u s.heap m ys)
    (h : ∀ h', ZS h' (s.heap.objs.size + 4) (s.heap.objs.size + 2) (s.heap.objs.size + 3) .none → IsPair h' (s.heap.objs.size + 2) (.ref s.heap.objs.size) (.ref (s.heap.objs.size + 1)) → IsPair h' (s.heap.objs.size + 3) .none .none →
      SI0 t h' s.heap.objs.size l 0 → SI0 u h' (s.heap.objs.size + 1) m 0 → (∀ c o, s.heap.get? c = some o → h'.get? c = some o) → Q (.ref (s.heap.objs.size + 4)) { s with heap := h' }) :
    wpAny (model prog w) A (call (.type "zip") [.ref l, .ref m] [(Str.ofString "strict", .bool true)]) Q E s := by
  have B1 := begO t l xs
  have B2 := begO u m ys
  refine callType_newKw F.called_zip (by decide) (zs_typeCall _ _) (zs_newCall _ _) (fun obj => zs_init obj _ _) F.entry_zip_new (zs_meets B1 B2) ⟨⟨h1, h2⟩, ?_⟩
  have n1 : (s.heap.push (itO t l)).objs.size = s.heap.objs.size + 1 := Heap.size_push ..
  have n2 : ((s.heap.push (itO t l)).push (itO u m)).objs.size = s.heap.objs.size + 2 := by rw [Heap.size_push, n1]
  have n3 : (gzT2 s.heap (itO t l) (itO u m)).objs.size = s.heap.objs.size + 3 := by rw [Heap.size_push, n2]
  have n4 : (gzO2 s.heap (itO t l) (itO u m)).objs.size = s.heap.objs.size + 4 := by rw [Heap.size_push, n3]
  let Z : Obj := { cls := .type "zip", data := .fields #[.none, .bool false, .bool true, .ref ((s.heap.push (itO t l)).push (itO u m)).objs.size, .ref (gzT2 s.heap (itO t l) (itO u m)).objs.size] }
  let G : Heap := (gzO2 s.heap (itO t l) (itO u m)).push Z
  have up : ∀ (c : Addr) (o : Obj), (gzO2 s.heap (itO t l) (itO u m)).get? c = some o → G.get? c = some o := fun c o q => Heap.get?_push_of_some _ q
  have c4 : G.get? (s.heap.objs.size + 4) = some Z := by rw [← n4]; exact Heap.get?_push_size _ rfl
  have c3 : IsPair G (s.heap.objs.size + 3) .none .none := by rw [← n3]; exact up _ _ (Heap.get?_push_size _ rfl)
  have c2 : IsPair G (s.heap.objs.size + 2) (.ref s.heap.objs.size) (.ref (s.heap.objs.size + 1)) := by rw [← n2, ← n1]; exact up _ _ (Heap.get?_push_of_some _ (Heap.get?_push_size _ rfl))
  have c1 : G.get? (s.heap.objs.size + 1) = some (itO u m) := by rw [← n1]; exact up _ _ (Heap.get?_push_of_some _ (Heap.get?_push_of_some _ (Heap.get?_push_size _ B2.free)))
  have c0 : G.get? s.heap.objs.size = some (itO t l) := up _ _ (Heap.get?_push_of_some _ (Heap.get?_push_of_some _ (Heap.get?_push_of_some _ (Heap.get?_push_size _ B1.free))))
  have old : ∀ c o, s.heap.get? c = some o → G.get? c = some o := fun c o q => up c o (Heap.get?_push_of_some _ (Heap.get?_push_of_some _ (Heap.get?_push_of_some _ (Heap.get?_push_of_some _ q))))
  have hZ : Z = { cls := .type "zip", data := .fields #[.none, .bool false, .bool true, .ref (s.heap.objs.size + 2), .ref (s.heap.objs.size + 3)] } := by
    show ({ cls := .type "zip", data := .fields #[.none, .bool false, .bool true, .ref ((s.heap.push (itO t l)).push (itO u m)).objs.size, .ref (gzT2 s.heap (itO t l) (itO u m)).objs.size] } : Obj) = _
    rw [n2, n3]
  have s1 : SI0 t G s.heap.objs.size l 0 := by
    cases t with
    | true => exact ⟨_, c0, rfl, rfl⟩
    | false => exact ⟨_, c0, rfl, rfl⟩
  have s2 : SI0 u G (s.heap.objs.size + 1) m 0 := by
    cases u with
    | true => exact ⟨_, c1, rfl, rfl⟩
    | false => exact ⟨_, c1, rfl, rfl⟩
  have fin := h G (by rw [hZ] at c4; exact c4) c2 c3 s1 s2 old
  show Shared.TypeIs { s with heap := G } (.ref (gzO2 s.heap (itO t l) (itO u m)).objs.size) "zip" ∧ Q (.ref (gzO2 s.heap (itO t l) (itO u m)).objs.size) { s with heap := G }
  rw [n4]
  exact ⟨⟨Z, c4, rfl⟩, fin⟩
/-- a call of a built-in type with keywords -/
theorem callTyK {M : Model} {A : Around} {E : Value → Shared → Prop} {s : Shared} {env : Env} {pos : Pos} {T : String} {e : Expr} {es : List Expr} {kws : List Keyword} {Q : Value → Shared → Prop}
    (h : wpAny M A (spliced (backTo pos (starEach (e :: es) env))) (fun vs s₁ => wpAny M A (evalAll ((backToKw pos (keywordEach kws env)).map (·.2))) (fun zs s₂ => wpAny M A (call (.type T) vs (((backToKw pos (keywordEach kws env)).filterMap (·.1)).zip zs)) Q E s₂) E s₁) E s)
    (he : starEach (e :: es) env = (false, eval e env) :: starEach es env) (pl : (backTo pos (starEach (e :: es) env)).any (·.1) = false) (al : (backToKw pos (keywordEach kws env)).all (·.1.isSome) = true) (no : (backToKw pos (keywordEach kws env)).any (·.1.isNone) = false) :
    wpAny M A (callWith pos (.type T) [] (backTo pos (starEach (e :: es) env)) (backToKw pos (keywordEach kws env))) Q E s := by
  unfold callWith
  refine wpAny_bind (wpAny_holding (wpAny_mono (evalArgs_kw2 (f := .type T) al (Q := fun a s' => wpAny M A (call (.type T) a.pos a.kw) Q E s') h he) (fun a s1 q => wpAny_bind (wpAny_standAt ?_)) fun _ _ z => z))
  simp only [pl, no, Bool.or_false]
  refine wpAny_bind (wpAny_pure (wpAny_bind (wpAny_mono q (fun r s2 z => wpAny_bind (wpAny_holding (wpAny_point (wpAny_pure z)))) fun _ _ z => z)))
theorem zs_apart (I l m : Nat) (h1 : l < I) (h2 : m < I) : ZApart (I + 4) (I + 2) (I + 3) I (I + 1) l m := by
  constructor <;> (intro z; have z' : (_ : Nat) = _ := z; omega)
def iZS (K : PySem.W.Frag) (ta : TA) : TI := fun σ H R => ta σ H fun vs H1 => ∃ (a b : Addr) (t u : Bool) (xs ys : List V), vs = [.ref a, .ref b] ∧ (if t then SqT K H1 a xs else SqL K H1 a xs) ∧ (if u then SqT K H1 b ys else SqL K H1 b ys) ∧ R (ItzS K t u a b) H1
theorem pi_zs {X : Cx} {e e2 : Expr} {ta : TA} {p pos tpos kp vp : Pos} {elts : List Expr} {kk n : Nat} (hg : Gl X "zip") (hm : X.mg "zip" = none) (ha : PA X [e, e2] ta)
    (hs : starEach [e, e2] X.env = (false, eval e X.env) :: starEach [e2] X.env := by rfl) (hpl : (backTo pos (starEach [e, e2] X.env)).any (·.1) = false := by rfl) :
    PI X (.Tuple elts kk tpos) (.Call (.Name "zip" p) [e, e2] [⟨some "strict", .Constant (.bool true) n vp, kp⟩] pos) (iZS X.K ta) := by
  refine ⟨fun pins s σ H R I h => ?_⟩
  refine wpAny_Call_Name_kw (ld_blt I hg hm PyProof.Rows.boot_zip ?_)
  refine callTyK (thn (ha.run pos pins s σ H _ I h) fun us s1 ⟨vs, H1, I1, r1, q1⟩ => ?_) hs hpl rfl rfl
  obtain ⟨a, b, t, u, xs, ys, rfl, h1, h2, q⟩ := q1
  cases r1 with
  | cons r rr =>
    cases rr with
    | cons r' rr =>
      cases rr
      cases r
      cases r'
      refine kwAll_cons (Constant_bool (kwAll_nil ?_))
      obtain ⟨us, v1, o1⟩ := sq_get I1 h1
      obtain ⟨ws, v2, o2⟩ := sq_get I1 h2
      refine zs_call o1 o2 fun h' hz ha hb i1 i2 old => zs_self hz ?_
      have I2 : Inv X pins σ H1 { s1 with heap := h' } := I1.kept (t' := s1.toks) old
      have la : a < s1.heap.objs.size := by cases t <;> (obtain ⟨o, e, _⟩ := id o1; exact Heap.lt_size e)
      have lb : b < s1.heap.objs.size := by cases u <;> (obtain ⟨o, e, _⟩ := id o2; exact Heap.lt_size e)
      refine ⟨s1.heap.objs.size + 4, [s1.heap.objs.size + 4, s1.heap.objs.size + 2, s1.heap.objs.size + 3, s1.heap.objs.size, s1.heap.objs.size + 1], _, _, H1, rfl, I2, turn_zs (t := t) (u := u) (l := a) (m := b) ?_, ⟨hz, ha, ⟨_, _, hb⟩, i1, i2⟩, fun c hc => ?_, q⟩
      · exact zs_apart _ _ _ la lb
      · have hle : s1.heap.objs.size ≤ c := by
          simp only [List.mem_cons, List.not_mem_nil, or_false] at hc
          rcases hc with z | z | z | z | z <;> rw [z]
          · exact Nat.le_add_right _ _
          · exact Nat.le_add_right _ _
          · exact Nat.le_add_right _ _
          · exact Nat.le_refl _
          · exact Nat.le_add_right _ _
        exact I1.fpOk hle (I1.hok.fresh hle)
/-- the pairs, the two of one length -/
def zipSD (d e : PyData) : Option (List PyData) := (seqOf d).bind fun ds => (seqOf e).bind fun es => if ds.length = es.length then some (zipD ds es) else none
def iZpS (ok : Tag → Bool) (ms : EDs) : ID := fun env S => (ms env S).bind fun r => match r.1 with
  | [(d, t), (e, u)] => if ok t && ok u then (zipSD d e).map fun ds => (ds, r.2) else none
  | _ => none
def Sq' (K : PySem.W.Frag) (c : Bool) (H : Hp) (p : Addr) (xs : List V) : Prop := if c then SqT K H p xs else SqL K H p xs
section
variable {P : Program} {w : World} {K : PySem.W.Frag} {N M : Addr → Prop} {H : Hp} {a b : Addr} {vs us : List V} {ds es : List PyData} {t u : Bool}
theorem wk_zs (h : ∀ H', Kp M H H' → if t then SqT K H' a vs else SqL K H' a vs) (td : Dens P w K N H vs ds) (h' : ∀ H', Kp M H H' → if u then SqT K H' b us else SqL K H' b us) (te : Dens P w K N H us es) (hl : ds.length = es.length) : Wk P w K N M H (ItzS K t u a b) (zipD ds es) where
  go := fun i H' k hi => by
    rw [zipD_len, ← td.length, ← te.length] at hi
    exact ⟨vs, us, vs[i], us[i], h H' k, h' H' k, List.getElem?_eq_getElem (by omega), List.getElem?_eq_getElem (by omega)⟩
  yl := fun i H1 x H' d k e y => by
    obtain ⟨d0, d1, e0, e1, rfl⟩ := zipD_get e
    obtain ⟨T, x', y', rfl, hT, rfl, y1, y2⟩ := y
    obtain ⟨d', q, hd⟩ := td.get (y1 vs (h H1 k))
    rw [e0] at q; cases q
    obtain ⟨d', q, hd'⟩ := te.get (y2 us (h' H1 k))
    rw [e1] at q; cases q
    exact .inr ⟨T, _, _, rfl, rfl, hT, rfl, .cons hd (.cons hd' .nil)⟩
  stop := fun i H' k hi => by
    rw [zipD_len] at hi
    have l1 := td.length
    have l2 := te.length
    exact ⟨vs, us, h H' k, h' H' k, by omega, by omega⟩
/-- a list or a tuple that stays -/
theorem any_sq {W : Wd} {σ : L2.St} {H0 : Hp} {env : En} {S : SS} {v : V} {d : PyData} {tg : Tag} {ok : Tag → Bool} (hM : ∀ a, M a → W.N a) (hrd : ∀ t, ok t = true → t.rd = true)
    (hl : ∀ {v : V} {ds : List PyData} {t : Tag}, VOk P w K W H0 H v (.list ds) t → ok t = true → ∃ a vs, v = .ref a ∧ H a = some (.lst vs) ∧ Dens P w K W.N H vs ds ∧ ¬ M a) (hv : VOk P w K W H0 H v d tg) (hk : ok tg = true) (e : seqOf d = some ds) :
    ∃ (c : Bool) (a : Addr) (vs : List V), v = .ref a ∧ Dens P w K W.N H vs ds ∧ ∀ H', Kp M H H' → if c then SqT K H' a vs else SqL K H' a vs := by
  cases d with
  | list l =>
    cases e
    obtain ⟨a, vs, rfl, h1, t1, n1⟩ := hl hv hk
    exact ⟨false, a, vs, rfl, t1, fun H' k => .inl (.inl (k a _ n1 h1))⟩
  | tuple l =>
    cases e
    obtain ⟨a, vs, rfl, h1, t1⟩ := rd_tup hv (hrd _ hk) hM
    exact ⟨true, a, vs, rfl, t1, fun H' k => sqT_keep h1 k⟩
  | _ => cases e
theorem zs_read {M : Wd → Addr → Prop} {ok : Tag → Bool} {σ : L2.St} {R : It → Hp → Prop} {ms : EDs} (hM : ∀ W a, M W a → W.N a) (hrd : ∀ t, ok t = true → t.rd = true)
    (hl : ∀ {W : Wd} {σ : L2.St} {H H' : Hp} {env : En} {S : SS} {v : V} {ds : List PyData} {t : Tag}, StOk P w K W σ H env S → VOk P w K W H H' v (.list ds) t → ok t = true → ∃ a vs, v = .ref a ∧ H' a = some (.lst vs) ∧ Dens P w K W.N H' vs ds ∧ ¬ M W a)
    (h : tEvI P w K M (iZpS ok ms) σ H R) : iZS K (tEvs P w K ms) σ H R := by
  obtain ⟨W, env, S, ok0, ds, S', e, h⟩ := h
  obtain ⟨⟨as, S1⟩, e1, e⟩ := Option.bind_eq_some_iff.mp e
  dsimp only at e
  split at e
  case h_2 => cases e
  rename_i d t d' t'
  split at e
  case isFalse => cases e
  rename_i hok
  rw [Bool.and_eq_true] at hok
  obtain ⟨zs, e2, e⟩ := Option.map_eq_some_iff.mp e
  cases e
  obtain ⟨l1, f1, e2⟩ := Option.bind_eq_some_iff.mp e2
  obtain ⟨l2, f2, e2⟩ := Option.bind_eq_some_iff.mp e2
  split at e2
  case isFalse => cases e2
  rename_i hlen
  cases e2
  refine tEvs.use ok0 e1 fun vs H1 ok1 k1 s1 hv => ?_
  obtain ⟨v, u, rfl, hv1, hv2⟩ := vs2 hv
  obtain ⟨c1, a, xs, rfl, t1, q1⟩ := any_sq (σ := σ) (env := env) (S := S) (hM W) hrd (fun v z => hl ok0 v z) hv1 hok.1 f1
  obtain ⟨c2, b, ys, rfl, t2, q2⟩ := any_sq (σ := σ) (env := env) (S := S) (hM W) hrd (fun v z => hl ok0 v z) hv2 hok.2 f2
  exact ⟨a, b, c1, c2, xs, ys, rfl, q1 H1 Kp.refl, q2 H1 Kp.refl, h _ H1 k1 s1 (wk_zs q1 t1 q2 t2 hlen)⟩
end
section
variable {X : Cx} {e e2 : Expr} {ms : EDs} {pos p tpos kp vp : Pos} {elts : List Expr} {kk n : Nat}
theorem ei_zipS (hg : Gl X "zip") (hm : X.mg "zip" = none) (ha : EA X [e, e2] ms) (hs : starEach [e, e2] X.env = (false, eval e X.env) :: starEach [e2] X.env := by rfl) (hpl : (backTo pos (starEach [e, e2] X.env)).any (·.1) = false := by rfl) :
    EI X (.Tuple elts kk tpos) (.Call (.Name "zip" p) [e, e2] [⟨some "strict", .Constant (.bool true) n vp, kp⟩] pos) (iZpS Tag.cln ms) :=
  pi_wk (pi_zs hg hm ha hs hpl) fun _ _ _ h => zs_read (fun _ _ z => z) (fun t z => by cases t <;> first | rfl | cases z) (fun o v z => cl_lst o v z) h
theorem eic_zipS (hg : Gl X "zip") (hm : X.mg "zip" = none) (ha : EA X [e, e2] ms) (hs : starEach [e, e2] X.env = (false, eval e X.env) :: starEach [e2] X.env := by rfl) (hpl : (backTo pos (starEach [e, e2] X.env)).any (·.1) = false := by rfl) :
    EIc X (.Tuple elts kk tpos) (.Call (.Name "zip" p) [e, e2] [⟨some "strict", .Constant (.bool true) n vp, kp⟩] pos) (iZpS Tag.rd ms) :=
  pi_wk (pi_zs hg hm ha hs hpl) fun _ _ _ h => zs_read (fun _ _ z => SN z) (fun t z => z) (fun o v z => rd_lst o v z) h
end
end Ev

namespace Ev
open PySem L2

/-! ### the law's source of numbers -/
def drain (many : Int) : Nat → List Int → Int → List Int × Int
  | 0, c, l => (c, l)
  | n + 1, c, l => if 1 < many ∧ l < 2 ∧ c ≠ [] then drain many n c.dropLast (c.getD (c.length - 1) 0) else (c, l)
def mx1 (many : Int) : Int := if many > 1 then many else 1
def pickS (s : Src) (many : Int) : Option (Int × Src) := if many.natAbs < 1073741824 then
    (let r := drain many s.cells.length s.cells s.left
     if many < 2 ∨ 1 < r.2 then some (r.2.fmod (mx1 many), { cells := r.1, left := r.2.fdiv (mx1 many), mixed := s.mixed, turn := s.turn })
     else
      (let m1 := (s.mixed + (s.turn + 1) * 104729).fmod 998244353
       let m2 := (m1 * m1 + (s.turn + 1) * 17).fmod 2147483647
       some ((m2.fdiv 16).fmod many, { cells := r.1, left := r.2, mixed := m2, turn := s.turn + 1 }))) else none
def fPick : FD
  | [none, some (.int many)], some s => (pickS s many).map fun r => (.int r.1, .cl, some r.2)
  | _, _ => none
theorem drain_stop {many : Int} : ∀ {n : Nat} {c : List Int} {l : Int}, ¬ (1 < many ∧ l < 2 ∧ c ≠ []) → drain many n c l = (c, l)
  | 0, _, _, _ => rfl
  | n + 1, c, l, h => by unfold drain; rw [if_neg h]
theorem drain_go {many : Int} {n : Nat} {c : List Int} {l : Int} (h : 1 < many ∧ l < 2 ∧ c ≠ []) : drain many (n + 1) c l = drain many n c.dropLast (c.getD (c.length - 1) 0) := by
  rw [drain, if_pos h]
theorem fmod_mx (l many : Int) (h : 1 ≤ many) : 0 ≤ l.fmod (mx1 many) ∧ l.fmod (mx1 many) < many := by
  have e : mx1 many = many := by unfold mx1; split <;> omega
  rw [e]
  exact ⟨Int.fmod_nonneg_of_pos l (by omega), Int.fmod_lt_of_pos l (by omega)⟩
/-- a pick is a number below many -/
theorem pick_ok (s : Src) (many : Int) (h1 : 1 ≤ many) (h2 : many < 1073741824) : ∃ r s', pickS s many = some (r, s') ∧ 0 ≤ r ∧ r < many := by
  unfold pickS
  rw [if_pos (by omega)]
  dsimp only
  split
  · exact ⟨_, _, rfl, fmod_mx _ _ h1⟩
  · exact ⟨_, _, rfl, Int.fmod_nonneg_of_pos _ (by omega), Int.fmod_lt_of_pos _ (by omega)⟩
section
variable {P : Program} {w : World} {K : PySem.W.Frag} {mg : Str → Option Value} {base : Heap}
theorem srcKv_get (s : Src) (c : Addr) : valV (srcKv s c) (.inr "cells" : L2.Key) = some (.ref c) ∧ valV (srcKv s c) (.inr "left" : L2.Key) = some (.int s.left) ∧ valV (srcKv s c) (.inr "mixed" : L2.Key) = some (.int s.mixed) ∧ valV (srcKv s c) (.inr "turn" : L2.Key) = some (.int s.turn) := ⟨rfl, rfl, rfl, rfl⟩
theorem srcKv_put (s : Src) (c : Addr) (x : Int) : putK (srcKv s c) (.inr "left" : L2.Key) (.int x) = srcKv { s with left := x } c ∧ putK (srcKv s c) (.inr "mixed" : L2.Key) (.int x) = srcKv { s with mixed := x } c ∧ putK (srcKv s c) (.inr "turn" : L2.Key) (.int x) = srcKv { s with turn := x } c := ⟨rfl, rfl, rfl⟩
/-- the source lies at a and c, all else as in H -/
structure Gs (W : Wd) (H : Hp) (a c : Addr) (s : Src) (H' : Hp) : Prop where
  src : W.src = some (a, c)
  ne : a ≠ c
  d : H' a = some (.dK (srcKv s c))
  l : H' c = some (.lst (s.cells.map .int))
  kp : Kp W.S H H'
section
variable {W : Wd} {H H' : Hp} {a c : Addr} {s : Src}
theorem Gs.ok (g : Gs W H a c s H') : SrcOk W H' (some s) := ⟨a, c, g.src, g.ne, g.d, g.l⟩
theorem Gs.sa (g : Gs W H a c s H') : W.S a := ⟨_, g.src, .inl rfl⟩
theorem Gs.sc (g : Gs W H a c s H') : W.S c := ⟨_, g.src, .inr rfl⟩
theorem Gs.gl (g : Gs W H a c s H') : DGet H' a (.str "left") (some (.int s.left)) := DGet.k (k := .inr "left") g.d
theorem Gs.gm (g : Gs W H a c s H') : DGet H' a (.str "mixed") (some (.int s.mixed)) := DGet.k (k := .inr "mixed") g.d
theorem Gs.gt (g : Gs W H a c s H') : DGet H' a (.str "turn") (some (.int s.turn)) := DGet.k (k := .inr "turn") g.d
theorem Gs.gc (g : Gs W H a c s H') : DGet H' a (.str "cells") (some (.ref c)) := DGet.k (k := .inr "cells") g.d
theorem four_lt : (4 : Nat) < sizeLine := by rw [sizeLine_eq]; decide
theorem Gs.upda (g : Gs W H a c s H') {s' : Src} (e : s'.cells = s.cells) : Gs W H a c s' (upd H' a (.dK (srcKv s' c))) where
  src := g.src
  ne := g.ne
  d := upd_same
  l := by rw [upd_ne g.ne.symm, e]; exact g.l
  kp := fun b u n h => by
    rw [upd_ne (fun z => n (by rw [z]; exact g.sa))]
    exact g.kp b u n h
theorem Gs.pl (g : Gs W H a c s H') (x : Int) : DPut H' a (.str "left") (.int x) (upd H' a (.dK (srcKv { s with left := x } c))) := DPut.k (k := .inr "left") (v := .int x) g.d four_lt
theorem Gs.pm (g : Gs W H a c s H') (x : Int) : DPut H' a (.str "mixed") (.int x) (upd H' a (.dK (srcKv { s with mixed := x } c))) := DPut.k (k := .inr "mixed") (v := .int x) g.d four_lt
theorem Gs.pt (g : Gs W H a c s H') (x : Int) : DPut H' a (.str "turn") (.int x) (upd H' a (.dK (srcKv { s with turn := x } c))) := DPut.k (k := .inr "turn") (v := .int x) g.d four_lt
theorem Gs.pop (g : Gs W H a c s H') : Gs W H a c { s with cells := s.cells.dropLast } (upd H' c (.lst (s.cells.map .int).dropLast)) where
  src := g.src
  ne := g.ne
  d := by rw [upd_ne g.ne]; exact g.d
  l := by rw [upd_same, List.map_dropLast]
  kp := fun b u n h => by
    rw [upd_ne (fun z => n (by rw [z]; exact g.sc))]
    exact g.kp b u n h
theorem Gs.of (h : SrcOk W H (some s)) : ∃ a c, Gs W H a c s H := by
  obtain ⟨a, c, e1, e2, e3, e4⟩ := h
  exact ⟨a, c, e1, e2, e3, e4, fun _ _ _ h => h⟩
end
theorem drain_loop {K' : PySem.W.Frag} {W : Wd} {H : Hp} {many : Int} {s0 : Src} {a c : Addr} {T : TS} {D : Ends} (g : Gs W H a c s0 H)
    (tail : ∀ H' cc l, Gs W H a c { s0 with cells := cc, left := l } H' → drain many s0.cells.length s0.cells s0.left = (cc, l) → T D [some (.ref a), some (.int many), none, none] H') :
    tSeq (tWhile (tAnd (tTest (tOp (rI0 fun i j => V.bl (decide (j < i))) (tVar 1) (tC (V.int 1))))
        (tAnd (tTest (tOp (rI0 fun i j => V.bl (decide (i < j))) (tDGet (tVar 0) (tC (V.str "left"))) (tC (V.int 2))))
          (tTest (tOp (rI0 fun i j => V.bl (decide (j < i))) (tCB (fun xs H Q => ∃ p ys, xs = [V.ref p] ∧ (SqL K' H p ys ∨ SqT K' H p ys) ∧ Q (V.int ys.length) H) (tCons (tDGet (tVar 0) (tC (V.str "cells"))) tNil)) (tC (V.int 0))))))
      (sDPut (tVar 0) (tC (V.str "left")) (tBM0 K' "list" rPop (tDGet (tVar 0) (tC (V.str "cells")))))) T D [some (.ref a), some (.int many), none, none] H := by
  let σ0 : L2.St := [some (.ref a), some (.int many), none, none]
  refine ⟨fun m σ' H' => σ' = σ0 ∧ ∃ cc l, Gs W H a c { s0 with cells := cc, left := l } H' ∧ m = cc.length ∧ drain many cc.length cc l = drain many s0.cells.length s0.cells s0.left, ⟨_, rfl, _, _, g, rfl, rfl⟩, ?_⟩
  rintro m σ' H' ⟨rfl, cc, l, g1, rfl, hd⟩
  refine ⟨_, rfl, _, _, rfl, rfl, _, rfl, ?_⟩
  by_cases hc : 1 < many ∧ l < 2 ∧ cc ≠ []
  · obtain ⟨c1, c2, c3⟩ := hc
    have hlast : ∃ y, cc.getD (cc.length - 1) 0 = y ∧ (cc.map V.int)[(cc.map V.int).length - 1]? = some (V.int y) := by
      have : cc.length ≠ 0 := by cases cc with | nil => exact absurd rfl c3 | cons => simp
      refine ⟨_, rfl, ?_⟩
      rw [List.getElem?_map, List.length_map, List.getD_eq_getElem?_getD, List.getElem?_eq_getElem (by omega)]
      rfl
    obtain ⟨y, hy, hl⟩ := hlast
    obtain ⟨n, hn⟩ : ∃ n, cc.length = n + 1 := ⟨cc.length - 1, by cases cc with | nil => exact absurd rfl c3 | cons => simp⟩
    rw [if_pos (decide_eq_true c1)]
    refine ⟨_, rfl, a, _, rfl, g1.gl, _, _, rfl, rfl, _, rfl, ?_⟩
    dsimp only
    rw [if_pos (decide_eq_true c2)]
    refine ⟨_, rfl, a, _, rfl, g1.gc, ⟨_, _, rfl, .inl (.inl (.inl g1.l)), _, _, rfl, rfl, _, rfl, ?_⟩⟩
    dsimp only
    rw [if_pos (decide_eq_true (by rw [List.length_map]; show (0 : Int) < cc.length; omega))]
    refine ⟨fun σ' H' => σ' = σ0 ∧ Gs W H a c { s0 with cells := cc.dropLast, left := y } H', ?_, ?_⟩
    · rintro σ' H' ⟨rfl, g2⟩
      refine ⟨n, by omega, rfl, _, _, g2, by rw [List.length_dropLast]; omega, ?_⟩
      rw [List.length_dropLast, ← hd, hn, drain_go ⟨c1, c2, c3⟩, hy]
      rfl
    · exact ⟨_, rfl, a, _, rfl, g1.gc, .inl ⟨rfl, _, .inl (.inl g1.l)⟩, _, _, _, rfl, rfl, g1.l, hl, _, rfl, a, _, rfl, g1.pop.pl y, rfl, g1.pop.upda rfl⟩
  · have t := tail _ _ _ g1 (by rw [← hd]; exact drain_stop hc)
    by_cases c1 : 1 < many
    · dsimp only
      rw [if_pos (decide_eq_true c1)]
      refine ⟨_, rfl, a, _, rfl, g1.gl, _, _, rfl, rfl, _, rfl, ?_⟩
      by_cases c2 : l < 2
      · dsimp only
        rw [if_pos (decide_eq_true c2)]
        refine ⟨_, rfl, a, _, rfl, g1.gc, ⟨_, _, rfl, .inl (.inl (.inl g1.l)), _, _, rfl, rfl, _, rfl, ?_⟩⟩
        have : cc = [] := Classical.byContradiction fun z => hc ⟨c1, c2, z⟩
        subst this
        exact t
      · dsimp only
        rw [if_neg (by simp only [decide_eq_true_eq]; exact c2)]
        exact t
    · dsimp only
      rw [if_neg (by simp only [decide_eq_true_eq]; exact c1)]
      exact t
end
end Ev

namespace Ev
open PySem PySem.Spec PyProof.Rows L2

/-! ### a < b < c < d -/
def asB : PyData × Tag → Option Bool
  | (.bool k, .cl) => some k
  | _ => none
def bChain3 (o1 o2 o3 : Opr) (a b c d : ED) : BD := fun env S => (a env S).bind fun x => (b env x.2.2).bind fun y => if x.2.1.rd && y.2.1.rd then ((o1 x.1 x.2.1 y.1 y.2.1).bind asB).bind fun k => if k then
    (c env y.2.2).bind fun z => if z.2.1.rd then ((o2 y.1 y.2.1 z.1 z.2.1).bind asB).bind fun k => if k then
      (d env z.2.2).bind fun u => if u.2.1.rd then ((o3 z.1 z.2.1 u.1 u.2.1).bind asB).map fun k => (k, u.2.2) else none
    else some (false, z.2.2) else none
  else some (false, y.2.2) else none
theorem asB_of {P : Program} {w : World} {K : PySem.W.Frag} {W : Wd} {H H' : Hp} {o : Option (PyData × Tag)} {k : Bool} (e : o.bind asB = some k) : o = some (.bool k, .cl) := by
  obtain ⟨⟨d, t⟩, e1, e2⟩ := Option.bind_eq_some_iff.mp e
  unfold asB at e2
  split at e2
  · rename_i k' e3; cases e2; cases e3; exact e1
  · cases e2
section
variable {X : Cx} {a b c d : Expr} {ma mb mc md : ED} {pos : Pos}
/-- one comparison, as a step -/
theorem cmp_step {op : CmpOp} {o : Opr} (ho : OpR X (compareOp op) (rOp X.prog X.w X.K o)) {pins : List (Addr × Obj)} {s : Shared} {σ : L2.St} {H Ha : Hp} {W : Wd} {env : En} {S : SS} {x y : V} {v u : Value} {d1 d2 : PyData} {t1 t2 : Tag} {k : Bool} {R : Value → Shared → Prop}
    (I : Inv X pins σ H s) (ok : StOk X.prog X.w X.K W σ H env S) (h1 : VOk X.prog X.w X.K W Ha H x d1 t1) (h2 : VOk X.prog X.w X.K W Ha H y d2 t2) (r1 : t1.rd = true) (r2 : t2.rd = true) (rx : RelV x v) (ry : RelV y u) (e : o d1 t1 d2 t2 = some (.bool k, .cl))
    (h : ∀ H' s', Inv X pins σ H' s' → Kp W.S H H' → SrcOk W H' S → R (.bool k) s') : wpAny (model X.prog X.w) X.A (compareOp op v u) R X.xe s :=
  thn (ho pins s σ H x y v u (fun z H' => z = .bl k ∧ Kp W.S H H' ∧ SrcOk W H' S) I rx ry ⟨W, σ, env, S, Ha, d1, t1, d2, t2, _, _, ok, h1, h2, r1, r2, e, fun z H' kp sr hz => ⟨by cases (show Den X.prog X.w X.K W.N H' z (.bool k) from hz); rfl, kp, sr⟩⟩) fun z s' ⟨zv, H', I', rz, ez, kp, sr⟩ => by
    subst ez
    obtain rfl : z = .bool k := rz
    exact h H' s' I' kp sr
theorem eb_chain3 {p1 p2 p3 : CmpOp} {o1 o2 o3 : Opr} (h1 : OpR X (compareOp p1) (rOp X.prog X.w X.K o1)) (h2 : OpR X (compareOp p2) (rOp X.prog X.w X.K o2)) (h3 : OpR X (compareOp p3) (rOp X.prog X.w X.K o3))
    (ha : EE X a ma) (hb : EE X b mb) (hc : EE X c mc) (hd : EE X d md) (hm : lastMarks [p1, p2, p3] [b, c, d] = false := by with_unfolding_all rfl) : EB X (.Compare a [p1, p2, p3] [b, c, d] pos) (bChain3 o1 o2 o3 ma mb mc md) := by
  refine ⟨fun pins s σ H Q I ⟨W, env, S, ok, k, S', e, h⟩ => ?_⟩
  obtain ⟨⟨x1, t1, S1⟩, e1, e⟩ := Option.bind_eq_some_iff.mp e
  obtain ⟨⟨x2, t2, S2⟩, e2, e⟩ := Option.bind_eq_some_iff.mp e
  dsimp only at e e2
  split at e
  case isFalse => cases e
  rename_i r12
  rw [Bool.and_eq_true] at r12
  obtain ⟨k1, e3, e⟩ := Option.bind_eq_some_iff.mp e
  have e3 := asB_of (P := X.prog) (w := X.w) (K := X.K) (W := W) (H := H) (H' := H) e3
  refine isTrue_chain (thn (ha.run pins s σ H _ I (tEv.use ok e1 fun x H1 ok1 q1 s1 hx => (⟨ok1, q1, s1, hx⟩ : _ ∧ _ ∧ _ ∧ _))) fun v s1 ⟨x, H1, I1, rx, ok1, q1, sr1, hx⟩ => ?_) hm
  refine test_link (thn (hb.run pins s1 σ H1 _ I1 (tEv.use ok1 e2 fun y H2 ok2 q2 s2 hy => (⟨ok2, q2, s2, hy⟩ : _ ∧ _ ∧ _ ∧ _))) fun u s2 ⟨y, H2, I2, ry, ok2, q2, sr2, hy⟩ => ?_)
  refine cmp_step h1 I2 ok2 (hx.grow ok q2) (hy.back ok q1 sr1) r12.1 r12.2 rx ry e3 fun H3 s3 I3 q3 sr3 => wpAny_truthy_bool ?_
  have ok3 := ok2.grow q3 sr3
  have hy3 := (hy.back ok q1 sr1).grow ok q3
  have q13 := (q1.trans q2).trans q3
  cases k1 with
  | false =>
    cases e
    exact ⟨H3, I3, h H3 q13 sr3⟩
  | true =>
    obtain ⟨⟨x3, t3, S3⟩, e4, e⟩ := Option.bind_eq_some_iff.mp e
    dsimp only at e
    split at e
    case isFalse => cases e
    rename_i r3
    obtain ⟨k2, e5, e⟩ := Option.bind_eq_some_iff.mp e
    have e5 := asB_of (P := X.prog) (w := X.w) (K := X.K) (W := W) (H := H) (H' := H) e5
    refine test_link (thn (hc.run pins s3 σ H3 _ I3 (tEv.use ok3 e4 fun y H2 ok2 q2 s2 hy => (⟨ok2, q2, s2, hy⟩ : _ ∧ _ ∧ _ ∧ _))) fun z s4 ⟨zv, H4, I4, rz, ok4, q4, sr4, hz⟩ => ?_)
    refine cmp_step h2 I4 ok4 (hy3.grow ok q4) (hz.back ok q13 sr3) r12.2 r3 ry rz e5 fun H5 s5 I5 q5 sr5 => wpAny_truthy_bool ?_
    have ok5 := ok4.grow q5 sr5
    have hz5 := (hz.back ok q13 sr3).grow ok q5
    have q15 := (q13.trans q4).trans q5
    cases k2 with
    | false =>
      cases e
      exact ⟨H5, I5, h H5 q15 sr5⟩
    | true =>
      obtain ⟨⟨x4, t4, S4⟩, e6, e⟩ := Option.bind_eq_some_iff.mp e
      dsimp only at e
      split at e
      case isFalse => cases e
      rename_i r4
      obtain ⟨k3, e7, e8⟩ := Option.map_eq_some_iff.mp e
      cases e8
      have e7 := asB_of (P := X.prog) (w := X.w) (K := X.K) (W := W) (H := H) (H' := H) e7
      refine test_last (thn (hd.run pins s5 σ H5 _ I5 (tEv.use ok5 e6 fun y H2 ok2 q2 s2 hy => (⟨ok2, q2, s2, hy⟩ : _ ∧ _ ∧ _ ∧ _))) fun z s6 ⟨uv, H6, I6, ru, ok6, q6, sr6, hu⟩ => ?_)
      exact cmp_step h3 I6 ok6 (hz5.grow ok q6) (hu.back ok q15 sr5) r3 r4 rz ru e7 fun H7 s7 I7 q7 sr7 => wpAny_truthy_bool ⟨H7, I7, h H7 ((q15.trans q6).trans q7) sr7⟩
end
end Ev

namespace Ev
open PySem PySem.Spec PyProof.Rows L2

/-! ### a, b = x, y through a tuple (a name of the two is a cell) -/
theorem tEv.mono {P : Program} {w : World} {K : PySem.W.Frag} {m : ED} {σ : L2.St} {H : Hp} {Q Q' : VK} (h : tEv P w K m σ H Q) (q : ∀ v H', Q v H' → Q' v H') : tEv P w K m σ H Q' := by
  obtain ⟨W, env, S, ok, d, t, S', e, h⟩ := h
  exact ⟨W, env, S, ok, d, t, S', e, fun v H' k s z => q v H' (h v H' k s z)⟩
section
variable {X : Cx} {a b : Expr} {ma mb : ED} {i j : Nat} {x y : Str} {px py pt pos : Pos} {kt k2 : Nat} {pt2 : Pos}
theorem es_parT (hx : Loc X.env.scope x) (hy : Loc X.env.scope y) (ha : EE X a ma) (hb : EE X b mb) (hc : X.calm = true) (hN : X.N.Nodup) (hi : X.N[i]? = some x) (hj : X.N[j]? = some y)
    (hfx : X.fn x = true ∨ X.env.scope.names.lookup x = some .local := by first | exact .inl rfl | exact .inr rfl) (hfy : X.fn y = true ∨ X.env.scope.names.lookup y = some .local := by first | exact .inl rfl | exact .inr rfl)
    (hs : swapsWithSole [.Tuple [.Name x px, .Name y py] kt pt] (.Tuple [a, b] k2 pt2) pos.line X.env = pure false := by rfl) (hw : swappedStores [.Tuple [.Name x px, .Name y py] kt pt] (.Tuple [a, b] k2 pt2) X.env = pure none := by rfl)
    (h1 : (assignEach [.Tuple [.Name x px, .Name y py] kt pt] X.env).map (·.2) = [assign (.Tuple [.Name x px, .Name y py] kt pt) X.env] := by rfl)
    (s1 : starEach [a, b] X.env = (false, eval a X.env) :: starEach [b] X.env := by rfl) (s2 : starEach [b] X.env = (false, eval b X.env) :: starEach [] X.env := by rfl)
    (g1 : (assignEach [.Name x px, .Name y py] X.env).map (·.2) = assign (.Name x px) X.env :: (assignEach [.Name y py] X.env).map (·.2) := by rfl) (g2 : (assignEach [.Name y py] X.env).map (·.2) = assign (.Name y py) X.env :: (assignEach [] X.env).map (·.2) := by rfl)
    (g3 : (assignEach [.Name x px, .Name y py] X.env).length = 2 := by rfl) (g4 : (assignEach [.Name x px, .Name y py] X.env).findIdx? (·.1) = none := by rfl) :
    ES X (.Assign [.Tuple [.Name x px, .Name y py] kt pt] (.Tuple [a, b] k2 pt2) pos) (sPar i j ma mb) :=
  ps_wk (ps_asg (pe_tup (pa_cons ha (pa_cons hb pa_nil s2) s1)) (pg_tup hc (pgs_cons (pg_name hN hi hx hfx) (pgs_cons (pg_name hN hj hy hfy) pgs_nil g2) g1) g3 g4) hs hw h1) fun D σ H ⟨W, env, S, ok, o, e, h⟩ => by
    have hd : OutK X.prog X.w X.K W { D with nx := fun σ' H' => ∀ p us, H' p = none → D.nx σ' (upd H' p (.tup us)) } o := by
      cases o with
      | nx e s => exact fun W' σ' H' sm ok' p us hp => h W' σ' _ sm (ok'.grow (kp_new hp) (src_new ok'.src hp))
      | bk e s => exact h
      | ct e s => exact h
      | rt d t s => exact h
    have r := par_read ⟨W, env, S, ok, o, e, hd⟩
    refine tEv.mono r fun v H1 r1 => tEv.mono r1 fun u H2 r2 => ?_
    obtain ⟨v', u', ev, q⟩ := r2
    cases ev
    refine ⟨by rw [sizeLine_eq]; exact (show (2 : Nat) ≤ 16777216 by decide), fun p hp => ⟨p, [v, u], rfl, .inl (.inl upd_same), rfl, ?_⟩⟩
    exact ⟨v, [u], rfl, u, [], rfl, rfl, q p [v, u] hp⟩
end

/-! ### a product over a list of one's own: for side in sides: many = many * side -/
def sProd (j k l : Nat) : SD := fun env S => match env[j]?, env[k]? with
  | some (.ow (.list ds)), some (.cl (.int m)) => if k < env.length && l < env.length && decide (k ≠ l) && decide (j ≠ k) && decide (j ≠ l) then (intsOf ds).bind fun ns => if ns.all (fun n => decide (n.natAbs < 1000000)) then (match ns.getLast? with
    | none => some (.nx env S)
    | some z => some (.nx ((env.set l (.cl (.int z))).set k (.cl (.int (ns.foldl (· * ·) m)))) S)) else none else none
  | _, _ => none
theorem StOk.setCl2 {P : Program} {w : World} {K : PySem.W.Frag} {W : Wd} {σ : L2.St} {H : Hp} {env : En} {S : SS} (ok : StOk P w K W σ H env S) {k l : Nat} (hk : k < env.length) (hl : l < env.length) {v u : V} {d e : PyData} (hv : ∀ N, Den P w K N H v d) (hu : ∀ N, Den P w K N H u e) :
    ∃ W', W.Sim W' ∧ StOk P w K W' ((σ.set l (some u)).set k (some v)) H ((env.set l (.cl e)).set k (.cl d)) S :=
  ⟨_, (sim_dr W l).trans (sim_dr _ k), (ok.setCl hl (hu _)).setCl (i := k) (by rw [List.length_set]; exact hk) (hv _)⟩
section
variable {X : Cx} {j k l : Nat} {x y z : Str} {p1 p2 p3 p4 p5 p6 pos pos' : Pos}
theorem es_prod (hc : X.calm = true) (hv : PE X (.Name x p2) (tVar j)) (hm : PE X (.Name z p4) (tVar k)) (hs : PE X (.Name y p5) (tVar l)) (hN : X.N.Nodup) (hk : X.N[k]? = some z) (hl : X.N[l]? = some y) (lk : Loc X.env.scope z) (ll : Loc X.env.scope y) (hp : PassesOwn (model X.prog X.w) X.A X.env X.xe)
    (fk : X.fn z = true ∨ X.env.scope.names.lookup z = some .local := by first | exact .inl rfl | exact .inr rfl) (fl : X.fn y = true ∨ X.env.scope.names.lookup y = some .local := by first | exact .inl rfl | exact .inr rfl)
    (sw : swapsWith (.BinOp (.Name z p4) .Mult (.Name y p5) p6) (some (.Name z p3)) pos'.line X.env = pure false := by rfl) (fs : ∀ v, foldedSetIterable (.Name x p2) X.env v = pure v := by intro _; rfl) :
    ES X (.For (.Name y p1) (.Name x p2) [.Assign [.Name z p3] (.BinOp (.Name z p4) .Mult (.Name y p5) p6) pos'] [] pos) (sProd j k l) :=
  ps_wk (ps_for hp hc (pi_list hv) (pg_name hN hl ll fl) (pss_one (ps_set hN hk lk (pe_op op_mul hm hs) sw fk)) fs) fun D σ H ⟨W, env, S, ok, o, e, h⟩ => by
    unfold sProd at e
    split at e
    case h_2 => cases e
    rename_i ds m ej ek
    split at e
    case isFalse => cases e
    rename_i hz
    simp only [Bool.and_eq_true, decide_eq_true_eq] at hz
    obtain ⟨⟨⟨⟨h1, h2⟩, h3⟩, h4⟩, h5⟩ := hz
    obtain ⟨ns, e1, e⟩ := Option.bind_eq_some_iff.mp e
    split at e
    case isFalse => cases e
    rename_i hall
    obtain ⟨a, oa, sa, ob, hj⟩ := own_at ok ej
    obtain ⟨mv, sm, dm⟩ := ok.slots k _ ek
    cases dm
    cases ob with
    | @lst vs _ e4 t4 =>
      have evs := ints_of t4 e1
      have lσ := ok.len
      let R : Nat → L2.St → Hp → Prop := fun n σ' H' => H' = H ∧ ∃ W' env', W.Sim W' ∧ StOk X.prog X.w X.K W' σ' H env' S ∧ σ'.length = σ.length ∧ σ'[k]? = some (some (.int ((ns.take n).foldl (· * ·) m))) ∧ ∃ zl : Option Int, (n = 0 → env' = env) ∧ (n ≠ 0 → (ns.take n).getLast? = some (zl.getD 0) ∧ env' = (env.set l (.cl (.int (zl.getD 0)))).set k (.cl (.int ((ns.take n).foldl (· * ·) m))))
      refine ⟨_, sa, a, rfl, ⟨vs, .inl (.inl e4)⟩, for_list (K := X.K) (a := a) (xs := vs) R ⟨rfl, W, env, Wd.Sim.refl W, ok, rfl, sm, none, fun _ => rfl, fun z => absurd rfl z⟩ (fun i σ' H' _ r => by rw [r.1]; exact .inl (.inl e4)) ?_ ?_⟩
      · rintro i v σ' H' hi ⟨rfl, W', env', s', ok', ll', sk', zl, z0, z1⟩
        rw [evs, List.getElem?_map] at hi
        obtain ⟨n, hn, rfl⟩ := Option.map_eq_some_iff.mp hi
        have hn1 : n.natAbs < 1000000 := by
          have := List.all_eq_true.mp hall n (List.mem_of_getElem? hn)
          exact of_decide_eq_true this
        have hkl : σ'.length = env'.length := by rw [ok'.len]
        have hl1 : l < σ'.length := by rw [ll', ← lσ]; exact h2
        have hk1 : k < σ'.length := by rw [ll', ← lσ]; exact h1
        refine ⟨_, by rw [List.getElem?_set_ne (Ne.symm h3)]; exact sk', _, List.getElem?_set_self hl1, _, _, rfl, rfl, .inr (by omega), ?_⟩
        have ex : (ns.take (i + 1)).foldl (· * ·) m = (ns.take i).foldl (· * ·) m * n := by
          rw [List.take_add_one, hn, List.foldl_append]; rfl
        obtain ⟨W2, s2, ok2⟩ := ok'.setCl2 (k := k) (l := l) (by rw [← hkl]; exact hk1) (by rw [← hkl]; exact hl1) (v := .int ((ns.take i).foldl (· * ·) m * n)) (u := .int n) (fun _ => .int _) (fun _ => .int _)
        refine ⟨rfl, W2, _, s'.trans s2, ok2, by rw [List.length_set, List.length_set]; exact ll', by rw [List.getElem?_set_self (by rw [List.length_set]; exact hk1), ex], some n, fun z => absurd z (Nat.succ_ne_zero _), fun _ => ⟨?_, ?_⟩⟩
        · rw [List.take_add_one, hn, List.getLast?_append]; rfl
        · rw [ex]
          by_cases hi0 : i = 0
          · rw [z0 hi0]; rfl
          · rw [(z1 hi0).2]
            apply List.ext_getElem?
            intro q
            by_cases q1 : q = k
            · subst q1
              rw [List.getElem?_set_self (by simp only [List.length_set]; exact h1), List.getElem?_set_self (by simp only [List.length_set]; exact h1)]
            · by_cases q2 : q = l
              · subst q2
                rw [List.getElem?_set_ne (Ne.symm q1), List.getElem?_set_self (by simp only [List.length_set]; exact h2), List.getElem?_set_ne (Ne.symm q1), List.getElem?_set_self h2]
                rfl
              · rw [List.getElem?_set_ne (Ne.symm q1), List.getElem?_set_ne (Ne.symm q2), List.getElem?_set_ne (Ne.symm q1), List.getElem?_set_ne (Ne.symm q2), List.getElem?_set_ne (Ne.symm q1), List.getElem?_set_ne (Ne.symm q2)]
      · rintro σ' H' ⟨rfl, W', env', s', ok', ll', sk', zl, z0, z1⟩
        rw [show vs.length = ns.length by rw [evs, List.length_map], List.take_length] at z1 sk'
        split at e
        · rename_i hg
          cases e
          have : ns = [] := List.getLast?_eq_none_iff.mp hg
          rw [z0 (by rw [evs, this]; rfl)] at ok'
          exact h W' σ' _ s' ok'
        · rename_i zz hg
          cases e
          have hne : ns.length ≠ 0 := fun q => by
            rw [List.length_eq_zero_iff.mp q] at hg; cases hg
          obtain ⟨g1, g2⟩ := z1 hne
          rw [hg] at g1
          cases g1
          rw [g2] at ok'
          exact h W' σ' _ s' ok'
end
end Ev

namespace Ev
open PySem L2

/-! ### the plain side: reading denotations -/
theorem runF_at (n : Nat) (body : SD) (as : List (Option PyData)) (S : SS) : runF n body as S = (body (as.map aSl ++ List.replicate (n - as.length) .un) S).bind fun o => match o with
  | .rt d t s => some (d, t, s)
  | .nx _ s => some (.none, .cl, s)
  | _ => none := rfl
theorem runF_rt {n : Nat} {body : SD} {as : List (Option PyData)} {S : SS} {env : En} {d : PyData} {t : Tag} {S' : SS} (he : as.map aSl ++ List.replicate (n - as.length) .un = env) (h : body env S = some (.rt d t S')) : runF n body as S = some (d, t, S') := by
  rw [runF_at, he, h]; rfl
theorem sSeq_nx {m n : SD} {env e : En} {S s : SS} (h : m env S = some (.nx e s)) : sSeq m n env S = n e s := by unfold sSeq; rw [h]; rfl
theorem sSeq_rt {m n : SD} {env : En} {S s : SS} {d : PyData} {t : Tag} (h : m env S = some (.rt d t s)) : sSeq m n env S = some (.rt d t s) := by unfold sSeq; rw [h]; rfl
theorem sSet_cl {i : Nat} {m : ED} {env : En} {S s : SS} {d : PyData} (h : m env S = some (d, .cl, s)) (hi : i < env.length) : sSet i m env S = some (.nx (env.set i (.cl d)) s) := by unfold sSet; rw [h]; simp [hi]
theorem sSet_fr {i : Nat} {m : ED} {env : En} {S s : SS} {d : PyData} (h : m env S = some (d, .fr, s)) (hi : i < env.length) : sSet i m env S = some (.nx (env.set i (.ow d)) s) := by unfold sSet; rw [h]; simp [hi]
theorem sRet_cl {m : ED} {env : En} {S s : SS} {d : PyData} (h : m env S = some (d, .cl, s)) : sRet m env S = some (.rt d .cl s) := by unfold sRet; rw [h]; rfl
theorem sRet_fr {m : ED} {env : En} {S s : SS} {d : PyData} (h : m env S = some (d, .fr, s)) : sRet m env S = some (.rt d .fr s) := by unfold sRet; rw [h]; rfl
theorem sIf_t {c : BD} {m n : SD} {env : En} {S s : SS} (h : c env S = some (true, s)) : sIf c m n env S = m env s := by unfold sIf; rw [h]; rfl
theorem sIf_f {c : BD} {m n : SD} {env : En} {S s : SS} (h : c env S = some (false, s)) : sIf c m n env S = n env s := by unfold sIf; rw [h]; rfl
theorem eIf_t {c : BD} {m n : ED} {env : En} {S s : SS} (h : c env S = some (true, s)) : eIf c m n env S = m env s := by unfold eIf; rw [h]; rfl
theorem eIf_f {c : BD} {m n : ED} {env : En} {S s : SS} (h : c env S = some (false, s)) : eIf c m n env S = n env s := by unfold eIf; rw [h]; rfl
theorem sFor_at {it : ID} {g : Tg} {body : SD} {env : En} {S s : SS} {l : List PyData} (h : it env S = some (l, s)) : sFor it g body env S = loopF g body l env s := by unfold sFor; rw [h]; rfl
theorem eFn_at {F : FD} {ms : EDs} {env : En} {S s : SS} {r : List (PyData × Tag)} {q : PyData × Tag × SS} (h : ms env S = some (r, s)) (hc : r.all (·.2.cs) = true) (hF : F (r.map toArg) s = some q) : eFn F ms env S = some q := by
  unfold eFn; rw [h]; show (F (r.map toArg) s).bind _ = _; rw [hF]; show (if r.all (·.2.cs) then some q else _) = _; rw [if_pos hc]
theorem eCall_at {o : OF} {ms : EDs} {env : En} {S s : SS} {r : List (PyData × Tag)} {q : PyData × Tag} (h : ms env S = some (r, s)) (hc : r.all (·.2.rd) = true) (hF : o r = some q) : eCall o ms env S = some (q.1, q.2, s) := by
  unfold eCall; rw [h]; show (if r.all (·.2.rd) then (o r).map _ else none) = _; rw [if_pos hc, hF]; rfl
theorem dCons_at {m : ED} {ms : EDs} {env : En} {S s s' : SS} {d : PyData} {t : Tag} {r : List (PyData × Tag)} (h : m env S = some (d, t, s)) (h' : ms env s = some (r, s')) : dCons m ms env S = some ((d, t) :: r, s') := by
  unfold dCons; rw [h]; show (ms env s).bind _ = _; rw [h']; rfl
theorem eBin_at {o : Opr} {a b : ED} {env : En} {S s s' : SS} {d e f : PyData} {t u v : Tag} (ha : a env S = some (d, t, s)) (hb : b env s = some (e, u, s')) (hr : (t.rd && u.rd) = true) (ho : o d t e u = some (f, v)) : eBin o a b env S = some (f, v, s') := by
  unfold eBin; rw [ha]; show (b env s).bind _ = _; rw [hb]; show (if t.rd && u.rd then (o d t e u).map _ else none) = _; rw [if_pos hr, ho]; rfl
theorem bT_at {m : ED} {env : En} {S s : SS} {b : Bool} (h : m env S = some (.bool b, .cl, s)) : bT m env S = some (b, s) := by unfold bT; rw [h]; rfl
theorem bNot_at {m : BD} {env : En} {S s : SS} {b : Bool} (h : m env S = some (b, s)) : bNot m env S = some (!b, s) := by unfold bNot; rw [h]; rfl
theorem bOr_f {a b : BD} {env : En} {S s : SS} (h : a env S = some (false, s)) : bOr a b env S = b env s := by unfold bOr; rw [h]; rfl
theorem eAnd_t {a b : ED} {env : En} {S s : SS} (h : a env S = some (.bool true, .cl, s)) : eAnd a b env S = b env s := by unfold eAnd; rw [h]; rfl
theorem bAnd_t {a b : BD} {env : En} {S s : SS} (h : a env S = some (true, s)) : bAnd a b env S = b env s := by unfold bAnd; rw [h]; rfl
theorem bAnd_f {a b : BD} {env : En} {S s : SS} (h : a env S = some (false, s)) : bAnd a b env S = some (false, s) := by unfold bAnd; rw [h]; rfl

/-- a loop that goes on to its end: what holds at each place -/
theorem loopF_inv {α : Type} {g : Tg} {body : SD} {f : α → PyData} (I : List α → En → Prop) : ∀ (l pre : List α) (env : En) (S : SS),
    (∀ p a r env, pre ++ l = p ++ a :: r → I p env → ∃ env1, g.set (f a) env = some env1 ∧ ∃ env2, body env1 S = some (.nx env2 S) ∧ I (p ++ [a]) env2) →
    I pre env → ∃ env', loopF g body (l.map f) env S = some (.nx env' S) ∧ I (pre ++ l) env'
  | [], pre, env, S, _, i => ⟨env, rfl, by rw [List.append_nil]; exact i⟩
  | a :: r, pre, env, S, h, i => by
    obtain ⟨e1, h1, e2, h2, h3⟩ := h pre a r env rfl i
    obtain ⟨e', h4, h5⟩ := loopF_inv I r (pre ++ [a]) e2 S (fun p b q env e => h p b q env (by rw [← e]; simp)) h3
    refine ⟨e', ?_, by simpa using h5⟩
    show ((g.set (f a) env).bind fun env1 => (body env1 S).bind fun o => match o with
      | .nx e s => loopF g body (r.map f) e s
      | .ct e s => loopF g body (r.map f) e s
      | .bk e s => some (.nx e s)
      | .rt d t s => some (.rt d t s)) = _
    rw [h1, Option.bind_some, h2, Option.bind_some]
    exact h4
theorem sFor_inv {α : Type} {it : ID} {g : Tg} {body rest : SD} {env : En} {S : SS} {f : α → PyData} {o : Option Out} (I : List α → En → Prop) (l : List α) (hit : it env S = some (l.map f, S)) (hI : I [] env)
    (h : ∀ p a r env, l = p ++ a :: r → I p env → ∃ env1, g.set (f a) env = some env1 ∧ ∃ env2, body env1 S = some (.nx env2 S) ∧ I (p ++ [a]) env2)
    (k : ∀ env', I l env' → rest env' S = o) : sSeq (sFor it g body) rest env S = o := by
  obtain ⟨env', h1, h2⟩ := loopF_inv (g := g) (body := body) (f := f) I l [] env S (fun p a r env e => h p a r env (by simpa using e)) hI
  rw [sSeq_nx ((sFor_at hit).trans h1)]
  exact k env' (by simpa using h2)
theorem sFor_go {α : Type} {it : ID} {g : Tg} {body rest : SD} {env : En} {S : SS} {f : α → PyData} (I : List α → En → Prop) (l : List α) (hit : it env S = some (l.map f, S)) (hI : I [] env)
    (h : ∀ p a r env, l = p ++ a :: r → I p env → ∃ env1, g.set (f a) env = some env1 ∧ ∃ env2, body env1 S = some (.nx env2 S) ∧ I (p ++ [a]) env2) :
    ∃ env', I l env' ∧ sSeq (sFor it g body) rest env S = rest env' S := by
  obtain ⟨env', h1, h2⟩ := loopF_inv (g := g) (body := body) (f := f) I l [] env S (fun p a r env e => h p a r env (by simpa using e)) hI
  exact ⟨env', by simpa using h2, sSeq_nx ((sFor_at hit).trans h1)⟩
/-- .. where the source goes on, too -/
theorem loopF_invS {α : Type} {g : Tg} {body : SD} {f : α → PyData} (I : List α → En → SS → Prop) : ∀ (l pre : List α) (env : En) (S : SS),
    (∀ p a r env S, pre ++ l = p ++ a :: r → I p env S → ∃ env1, g.set (f a) env = some env1 ∧ ∃ env2 S2, body env1 S = some (.nx env2 S2) ∧ I (p ++ [a]) env2 S2) →
    I pre env S → ∃ env' S', loopF g body (l.map f) env S = some (.nx env' S') ∧ I (pre ++ l) env' S'
  | [], pre, env, S, _, i => ⟨env, S, rfl, by rw [List.append_nil]; exact i⟩
  | a :: r, pre, env, S, h, i => by
    obtain ⟨e1, h1, e2, S2, h2, h3⟩ := h pre a r env S rfl i
    obtain ⟨e', S', h4, h5⟩ := loopF_invS I r (pre ++ [a]) e2 S2 (fun p b q env S e => h p b q env S (by rw [← e]; simp)) h3
    refine ⟨e', S', ?_, by simpa using h5⟩
    show ((g.set (f a) env).bind fun env1 => (body env1 S).bind fun o => match o with
      | .nx e s => loopF g body (r.map f) e s
      | .ct e s => loopF g body (r.map f) e s
      | .bk e s => some (.nx e s)
      | .rt d t s => some (.rt d t s)) = _
    rw [h1, Option.bind_some, h2, Option.bind_some]
    exact h4
theorem sFor_goS {α : Type} {it : ID} {g : Tg} {body rest : SD} {env : En} {S S1 : SS} {f : α → PyData} (I : List α → En → SS → Prop) (l : List α) (hit : it env S = some (l.map f, S1)) (hI : I [] env S1)
    (h : ∀ p a r env S, l = p ++ a :: r → I p env S → ∃ env1, g.set (f a) env = some env1 ∧ ∃ env2 S2, body env1 S = some (.nx env2 S2) ∧ I (p ++ [a]) env2 S2) :
    ∃ env' S', I l env' S' ∧ sSeq (sFor it g body) rest env S = rest env' S' := by
  obtain ⟨env', S', h1, h2⟩ := loopF_invS (g := g) (body := body) (f := f) I l [] env S1 (fun p a r env S e => h p a r env S (by simpa using e)) hI
  exact ⟨env', S', by simpa using h2, sSeq_nx ((sFor_at hit).trans h1)⟩
/-- a number that is picked -/
theorem pickE {ms : EDs} {env : En} {s : Src} {many : Nat} {S : SS} (h : ms env S = some ([(.none, .sr), (.int (many : Int), .cl)], some s)) (h1 : 1 ≤ many) (h2 : many < 1073741824) :
    ∃ (r : Nat) (s' : Src), eFn fPick ms env S = some (.int (r : Int), .cl, some s') ∧ r < many := by
  obtain ⟨r, s', e, h3, h4⟩ := pick_ok s (many : Int) (by omega) (by omega)
  refine ⟨r.toNat, s', ?_, by omega⟩
  rw [show ((r.toNat : Nat) : Int) = r from by omega]
  refine eFn_at h rfl ?_
  show (pickS s (many : Int)).map (fun r => (PyData.int r.1, Tag.cl, some r.2)) = _
  rw [e]; rfl
/-- a loop that ends the def at a member -/
theorem loopF_rt {α : Type} {g : Tg} {body : SD} {f : α → PyData} {d : PyData} {t : Tag} {S S' : SS} (I : List α → En → Prop) (x : α) (r : List α) : ∀ (l pre : List α) (env : En),
    (∀ p a r env, pre ++ l = p ++ a :: r → I p env → ∃ env1, g.set (f a) env = some env1 ∧ ∃ env2, body env1 S = some (.nx env2 S) ∧ I (p ++ [a]) env2) →
    (∀ env, I (pre ++ l) env → ∃ env1, g.set (f x) env = some env1 ∧ body env1 S = some (.rt d t S')) →
    I pre env → loopF g body ((l ++ x :: r).map f) env S = some (.rt d t S')
  | [], pre, env, _, h, i => by
    obtain ⟨e1, h1, h2⟩ := h env (by simpa using i)
    show ((g.set (f x) env).bind fun env1 => (body env1 S).bind fun o => match o with
      | .nx e s => loopF g body (r.map f) e s
      | .ct e s => loopF g body (r.map f) e s
      | .bk e s => some (.nx e s)
      | .rt d t s => some (.rt d t s)) = _
    rw [h1, Option.bind_some, h2, Option.bind_some]
  | a :: l, pre, env, hs, h, i => by
    obtain ⟨e1, h1, e2, h2, h3⟩ := hs pre a l env rfl i
    show ((g.set (f a) env).bind fun env1 => (body env1 S).bind fun o => match o with
      | .nx e s => loopF g body ((l ++ x :: r).map f) e s
      | .ct e s => loopF g body ((l ++ x :: r).map f) e s
      | .bk e s => some (.nx e s)
      | .rt d t s => some (.rt d t s)) = _
    rw [h1, Option.bind_some, h2, Option.bind_some]
    exact loopF_rt I x r l (pre ++ [a]) e2 (fun p b q env e => hs p b q env (by rw [← e]; simp)) (fun env j => h env (by simpa using j)) h3
theorem sFor_rt {α : Type} {it : ID} {g : Tg} {body rest : SD} {env : En} {S S' : SS} {f : α → PyData} {d : PyData} {t : Tag} (I : List α → En → Prop) (l : List α) (x : α) (r : List α) (hit : it env S = some ((l ++ x :: r).map f, S)) (hI : I [] env)
    (h : ∀ p a r env, l = p ++ a :: r → I p env → ∃ env1, g.set (f a) env = some env1 ∧ ∃ env2, body env1 S = some (.nx env2 S) ∧ I (p ++ [a]) env2)
    (k : ∀ env', I l env' → ∃ env1, g.set (f x) env' = some env1 ∧ body env1 S = some (.rt d t S')) : sSeq (sFor it g body) rest env S = some (.rt d t S') :=
  sSeq_rt ((sFor_at hit).trans (loopF_rt I x r l [] env (fun p a r env e => h p a r env (by simpa using e)) (fun env j => k env (by simpa using j)) hI))
theorem sFor_last {α : Type} {it : ID} {g : Tg} {body : SD} {env : En} {S : SS} {f : α → PyData} (I : List α → En → Prop) (l : List α) (hit : it env S = some (l.map f, S)) (hI : I [] env)
    (h : ∀ p a r env, l = p ++ a :: r → I p env → ∃ env1, g.set (f a) env = some env1 ∧ ∃ env2, body env1 S = some (.nx env2 S) ∧ I (p ++ [a]) env2) :
    ∃ env', sFor it g body env S = some (.nx env' S) ∧ I l env' := by
  obtain ⟨env', h1, h2⟩ := loopF_inv (g := g) (body := body) (f := f) I l [] env S (fun p a r env e => h p a r env (by simpa using e)) hI
  exact ⟨env', (sFor_at hit).trans h1, by simpa using h2⟩
/-- .. and a comprehension -/
theorem lcLoop_at {α : Type} {g : Tg} {tt : BD} {te : ED} {env : En} {f : α → PyData} {p : α → Bool} {e : α → PyData} {S : SS} : ∀ (l : List α) (acc : List PyData),
    (∀ a ∈ l, ∃ env1, g.set (f a) env = some env1 ∧ tt env1 S = some (p a, S) ∧ (p a = true → ∃ t : Tag, t.cln = true ∧ te env1 S = some (e a, t, S))) → acc.length + l.length ≤ 16777216 →
    lcLoop g tt te env (l.map f) acc S = some (acc ++ (l.filter p).map e, S)
  | [], acc, _, _ => by simp [lcLoop]
  | a :: r, acc, h, hl => by
    obtain ⟨e1, h1, h2, h3⟩ := h a List.mem_cons_self
    rw [List.length_cons] at hl
    have ih := fun ac hh => lcLoop_at r ac (fun b hb => h b (List.mem_cons_of_mem _ hb)) hh
    rw [List.map_cons, lcLoop, h1, Option.bind_some, h2, Option.bind_some]
    by_cases q : p a = true
    · obtain ⟨t, c, h4⟩ := h3 q
      rw [if_pos q, h4, Option.bind_some, if_pos (by rw [c, Bool.true_and]; exact decide_eq_true (by omega)), ih _ (by rw [List.length_append, List.length_singleton]; omega), List.filter_cons_of_pos q]
      simp
    · rw [if_neg q, ih _ (by omega), List.filter_cons_of_neg q]
theorem eLc_at {α : Type} {vs : List Nat} {it : ID} {g : Tg} {tt : BD} {te : ED} {env : En} {f : α → PyData} {p : α → Bool} {e : α → PyData} {S S' : SS} {l : List α}
    (hi : it env S = some (l.map f, S')) (hn : notOw env vs = true) (h : ∀ a ∈ l, ∃ env1, g.set (f a) (wipeE env vs) = some env1 ∧ tt env1 S' = some (p a, S') ∧ (p a = true → ∃ t : Tag, t.cln = true ∧ te env1 S' = some (e a, t, S'))) (hl : l.length ≤ 16777216) :
    eLc vs it g tt te env S = some (.list ((l.filter p).map e), .fr, S') := by
  unfold eLc
  rw [hi, Option.bind_some, if_pos hn, lcLoop_at l [] h (by simpa using hl)]
  rfl
theorem filter_yes {α : Type} (l : List α) : l.filter (fun _ => true) = l := by induction l with
  | nil => rfl
  | cons a r ih => rw [List.filter_cons_of_pos rfl, ih]
theorem eLc_yes {α : Type} {vs : List Nat} {it : ID} {g : Tg} {te : ED} {env : En} {f : α → PyData} {e : α → PyData} {S S' : SS} {l : List α}
    (hi : it env S = some (l.map f, S')) (hn : notOw env vs = true) (h : ∀ a ∈ l, ∃ env1, g.set (f a) (wipeE env vs) = some env1 ∧ ∃ t : Tag, t.cln = true ∧ te env1 S' = some (e a, t, S')) (hl : l.length ≤ 16777216) :
    eLc vs it g bYes te env S = some (.list (l.map e), .fr, S') := by
  rw [eLc_at (p := fun _ => true) hi hn (fun a ha => let ⟨e1, h1, h2⟩ := h a ha; ⟨e1, h1, rfl, fun _ => h2⟩) hl, filter_yes]
theorem filter_no {α : Type} (l : List α) : l.filter (fun _ => false) = [] := by induction l with
  | nil => rfl
  | cons a r ih => rw [List.filter_cons_of_neg (by simp), ih]
theorem eLc_no {α : Type} {vs : List Nat} {it : ID} {g : Tg} {tt : BD} {te : ED} {env : En} {f : α → PyData} {S S' : SS} {l : List α}
    (hi : it env S = some (l.map f, S')) (hn : notOw env vs = true) (h : ∀ a ∈ l, ∃ env1, g.set (f a) (wipeE env vs) = some env1 ∧ tt env1 S' = some (false, S')) (hl : l.length ≤ 16777216) :
    eLc vs it g tt te env S = some (.list [], .fr, S') := by
  rw [eLc_at (p := fun _ => false) (e := f) hi hn (fun a ha => let ⟨e1, h1, h2⟩ := h a ha; ⟨e1, h1, h2, fun z => nomatch z⟩) hl, filter_no]; rfl
theorem lc2Loop_at {α β : Type} {g : Tg} {it1 : ID} {vs1 : List Nat} {g1 : Tg} {te : ED} {env : En} {f : α → PyData} {S : SS} {l1 : α → List β} {f1 : β → PyData} {e : α → β → PyData} : ∀ (l : List α) (acc : List PyData),
    (∀ a ∈ l, ∃ env1, g.set (f a) env = some env1 ∧ it1 env1 S = some ((l1 a).map f1, S) ∧ notOw env1 vs1 = true ∧ ∀ b ∈ l1 a, ∃ env2, g1.set (f1 b) (wipeE env1 vs1) = some env2 ∧ ∃ t : Tag, t.cln = true ∧ te env2 S = some (e a b, t, S)) →
    acc.length + (l.flatMap fun a => (l1 a).map (e a)).length ≤ 16777216 →
    lc2Loop g bYes it1 vs1 g1 bYes te env (l.map f) acc S = some (acc ++ l.flatMap fun a => (l1 a).map (e a), S)
  | [], acc, _, _ => by simp [lc2Loop]
  | a :: r, acc, h, hl => by
    obtain ⟨e1, h1, h2, h3, h4⟩ := h a List.mem_cons_self
    rw [List.flatMap_cons, List.length_append, List.length_map] at hl
    rw [List.map_cons, lc2Loop, h1, Option.bind_some]
    show (it1 e1 S).bind _ = _
    rw [h2, Option.bind_some, if_pos h3, lcLoop_at (p := fun _ => true) (e := e a) (l1 a) acc (fun b hb => let ⟨e2, q1, q2⟩ := h4 b hb; ⟨e2, q1, rfl, fun _ => q2⟩) (by omega), Option.bind_some]
    show lc2Loop g bYes it1 vs1 g1 bYes te env (r.map f) (acc ++ ((l1 a).filter fun _ => true).map (e a)) S = _
    rw [filter_yes, lc2Loop_at r _ (fun b hb => h b (List.mem_cons_of_mem _ hb)) (by rw [List.length_append, List.length_map]; omega), List.flatMap_cons, List.append_assoc]
theorem eLc2_at {α β : Type} {vs : List Nat} {it : ID} {g : Tg} {it1 : ID} {vs1 : List Nat} {g1 : Tg} {te : ED} {env : En} {f : α → PyData} {S S' : SS} {l1 : α → List β} {f1 : β → PyData} {e : α → β → PyData} {l : List α}
    (hi : it env S = some (l.map f, S')) (hn : notOw env vs = true) (h : ∀ a ∈ l, ∃ env1, g.set (f a) (wipeE env vs) = some env1 ∧ it1 env1 S' = some ((l1 a).map f1, S') ∧ notOw env1 vs1 = true ∧ ∀ b ∈ l1 a, ∃ env2, g1.set (f1 b) (wipeE env1 vs1) = some env2 ∧ ∃ t : Tag, t.cln = true ∧ te env2 S' = some (e a b, t, S'))
    (hl : (l.flatMap fun a => (l1 a).map (e a)).length ≤ 16777216) :
    eLc2 vs it g bYes it1 vs1 g1 bYes te env S = some (.list (l.flatMap fun a => (l1 a).map (e a)), .fr, S') := by
  unfold eLc2
  rw [hi, Option.bind_some, if_pos hn, lc2Loop_at l [] h (by simpa using hl)]
  rfl

/-! ### data of numbers -/
/-- a natural number -/
abbrev nD (n : Nat) : PyData := .int (n : Int)
/-- a tuple of natural numbers -/
def TN (c : List Nat) : PyData := .tuple (c.map nD)
theorem intsOf_map (l : List Int) : intsOf (l.map .int) = some l := by
  induction l with
  | nil => rfl
  | cons a r ih => rw [List.map_cons, intsOf, ih]; rfl
theorem intsOf_nD (l : List Nat) : intsOf (l.map nD) = some (l.map Int.ofNat) := by
  have := intsOf_map (l.map Int.ofNat)
  rw [List.map_map] at this
  exact this
theorem sum_ofNat (l : List Nat) : (l.map Int.ofNat).sum = ((l.sum : Nat) : Int) := by
  induction l with
  | nil => rfl
  | cons a r ih => rw [List.map_cons, List.sum_cons, List.sum_cons, ih]; exact (Int.natCast_add _ _).symm
theorem fmod_nat (a m : Nat) : Int.fmod (a : Int) (m : Int) = ((a % m : Nat) : Int) := by
  rw [Int.fmod_eq_emod_of_nonneg _ (Int.natCast_nonneg m)]; rfl
theorem fdiv_nat (a m : Nat) : Int.fdiv (a : Int) (m : Int) = ((a / m : Nat) : Int) := by
  rw [Int.fdiv_eq_ediv_of_nonneg _ (Int.natCast_nonneg m)]; rfl
theorem atI_at {α : Type} (l : List α) (i : Nat) : atI l (i : Int) = l[i]? := by
  unfold atI ixN
  rw [if_pos (Int.natCast_nonneg i)]
  by_cases h : i < l.length
  · rw [if_pos (by omega)]; rfl
  · rw [if_neg (by omega), List.getElem?_eq_none (by omega)]; rfl
theorem ixN_nat (n i : Nat) (h : i < n) : ixN n (i : Int) = some i := by
  unfold ixN
  rw [if_pos (Int.natCast_nonneg i), if_pos (by omega)]; rfl
end Ev

namespace G86
open PySem L2 Ev
def topS (i : Nat) : Stmt := PySem.Challenge.pw_torusfloors_k86_whole_boxes.main.body.getD i (.Pass ⟨0, 0, 0, 0⟩)

/-- what the module holds -/
structure Tx (K : PySem.W.Frag) (mg : Str → Option Value) : Prop where
  f_box_cells : ∃ f fd, Fun K "box_cells" "box_cells" (topS 1) f fd ∧ Binds K fd ["box"] [] ∧ mg "box_cells" = some (.ref f) ∧ PySem.W.keepIn K (.ref f) = true
  f_box_row : ∃ f fd, Fun K "box_row" "box_row" (topS 2) f fd ∧ Binds K fd ["box", "m"] [] ∧ mg "box_row" = some (.ref f) ∧ PySem.W.keepIn K (.ref f) = true
  f_box_paper : ∃ f fd, Fun K "box_paper" "box_paper" (topS 3) f fd ∧ Binds K fd ["box", "m"] [] ∧ mg "box_paper" = some (.ref f) ∧ PySem.W.keepIn K (.ref f) = true
  f_is_number : ∃ f fd, Fun K "is_number" "is_number" (topS 4) f fd ∧ Binds K fd ["value"] [] ∧ mg "is_number" = some (.ref f) ∧ PySem.W.keepIn K (.ref f) = true
  f_is_box_cell : ∃ f fd, Fun K "is_box_cell" "is_box_cell" (topS 5) f fd ∧ Binds K fd ["box", "value"] [] ∧ mg "is_box_cell" = some (.ref f) ∧ PySem.W.keepIn K (.ref f) = true
  f_is_box_bar : ∃ f fd, Fun K "is_box_bar" "is_box_bar" (topS 6) f fd ∧ Binds K fd ["box", "value"] [] ∧ mg "is_box_bar" = some (.ref f) ∧ PySem.W.keepIn K (.ref f) = true
  f_bar_cells : ∃ f fd, Fun K "bar_cells" "bar_cells" (topS 7) f fd ∧ Binds K fd ["cell", "axis", "m"] [] ∧ mg "bar_cells" = some (.ref f) ∧ PySem.W.keepIn K (.ref f) = true
  f_bars_fault : ∃ f fd, Fun K "bars_fault" "bars_fault" (topS 8) f fd ∧ Binds K fd ["box", "m", "bars"] [] ∧ mg "bars_fault" = some (.ref f) ∧ PySem.W.keepIn K (.ref f) = true
  f_judge_box : ∃ f fd, Fun K "judge_box" "judge_box" (topS 9) f fd ∧ Binds K fd ["box", "m", "value"] [] ∧ mg "judge_box" = some (.ref f) ∧ PySem.W.keepIn K (.ref f) = true
  f__law_source : ∃ f fd, Fun K "_law_source" "_law_source" (topS 11) f fd ∧ Binds K fd ["script"] [] ∧ mg "_law_source" = some (.ref f) ∧ PySem.W.keepIn K (.ref f) = true
  f__law_pick : ∃ f fd, Fun K "_law_pick" "_law_pick" (topS 12) f fd ∧ Binds K fd ["source", "many"] [] ∧ mg "_law_pick" = some (.ref f) ∧ PySem.W.keepIn K (.ref f) = true
  f__law_of : ∃ f fd, Fun K "_law_of" "_law_of" (topS 13) f fd ∧ Binds K fd ["source", "some"] [] ∧ mg "_law_of" = some (.ref f) ∧ PySem.W.keepIn K (.ref f) = true
  f__law_box : ∃ f fd, Fun K "_law_box" "_law_box" (topS 14) f fd ∧ Binds K fd ["source", "m", "most"] [] ∧ mg "_law_box" = some (.ref f) ∧ PySem.W.keepIn K (.ref f) = true
  f__law_row : ∃ f fd, Fun K "_law_row" "_law_row" (topS 15) f fd ∧ Binds K fd ["floor", "m"] [] ∧ mg "_law_row" = some (.ref f) ∧ PySem.W.keepIn K (.ref f) = true
  f__law_is_int : ∃ f fd, Fun K "_law_is_int" "_law_is_int" (topS 16) f fd ∧ Binds K fd ["value"] [] ∧ mg "_law_is_int" = some (.ref f) ∧ PySem.W.keepIn K (.ref f) = true
  f__law_is_cell : ∃ f fd, Fun K "_law_is_cell" "_law_is_cell" (topS 17) f fd ∧ Binds K fd ["value", "size"] [] ∧ mg "_law_is_cell" = some (.ref f) ∧ PySem.W.keepIn K (.ref f) = true
  f__law_box_cells : ∃ f fd, Fun K "_law_box_cells" "_law_box_cells" (topS 18) f fd ∧ Binds K fd ["box"] [] ∧ mg "_law_box_cells" = some (.ref f) ∧ PySem.W.keepIn K (.ref f) = true
  f__law_box_bar : ∃ f fd, Fun K "_law_box_bar" "_law_box_bar" (topS 19) f fd ∧ Binds K fd ["bar", "m"] [] ∧ mg "_law_box_bar" = some (.ref f) ∧ PySem.W.keepIn K (.ref f) = true
  f__law_bars_fault : ∃ f fd, Fun K "_law_bars_fault" "_law_bars_fault" (topS 20) f fd ∧ Binds K fd ["box", "m", "bars"] [] ∧ mg "_law_bars_fault" = some (.ref f) ∧ PySem.W.keepIn K (.ref f) = true
  f__law_is_box_bar : ∃ f fd, Fun K "_law_is_box_bar" "_law_is_box_bar" (topS 21) f fd ∧ Binds K fd ["box", "value"] [] ∧ mg "_law_is_box_bar" = some (.ref f) ∧ PySem.W.keepIn K (.ref f) = true
  f__law_box_fault : ∃ f fd, Fun K "_law_box_fault" "_law_box_fault" (topS 22) f fd ∧ Binds K fd ["box", "m", "value"] [] ∧ mg "_law_box_fault" = some (.ref f) ∧ PySem.W.keepIn K (.ref f) = true
  z_abs : mg "abs" = none
  z_all : mg "all" = none
  z_bool : mg "bool" = none
  z_dict : mg "dict" = none
  z_enumerate : mg "enumerate" = none
  z_int : mg "int" = none
  z_isinstance : mg "isinstance" = none
  z_len : mg "len" = none
  z_max : mg "max" = none
  z_min : mg "min" = none
  z_range : mg "range" = none
  z_repr : mg "repr" = none
  z_set : mg "set" = none
  z_sorted : mg "sorted" = none
  z_str : mg "str" = none
  z_sum : mg "sum" = none
  z_tuple : mg "tuple" = none
  z_zip : mg "zip" = none
variable {P : Program} {w : World} {K : PySem.W.Frag} {mg : Str → Option Value} {base : Heap}
theorem sc__law_pick : FnScope ["source", "many", "left", "mixed"] ["source", "many"] (defScope (topS 12)) := ⟨rfl, rfl, rfl, by decide +kernel, rfl, by decide +kernel, by decide +kernel⟩
theorem fn__law_pick {f : Addr} {fd : FuncData} (F : Fun K "_law_pick" "_law_pick" (topS 12) f fd) (T : Tx K mg) : FnG P w K mg base 1 f fd ["source", "many"] (spD P w K 2 fPick) := by
  refine fnG_of (k := 0) F sc__law_pick (fun vs H Q E h => h.1) fun cdv A outer s H vs Q hg hr hsp => ?_
  have hu := hu_of hr
  have ml := T.z_len
  have mm := T.z_max
  have mi := T.z_int
  obtain ⟨hl, W, S, as, d, t, S', e0, ha, e, q⟩ := hsp
  refine ⟨_, pss_cons (ps_while PassesOwn.never (PW.pt (pw_and (pt_cmpR op_gt (pv 1) pe_int (nomark _)) (pw_and (pt_cmpR op_lt (pe_dget hu (pv 0) pe_str (fun _ _ => rfl)) pe_int (nomark _))
      (pw_and1 (pt_cmpR op_gt (pe_callB call_len_seq (by rfl) ml PySem.boot_len (pa_cons (pe_dget hu (pv 0) pe_str (fun _ _ => rfl)) pa_nil)) pe_int (nomark _))))))
      (pss_one (ps_dput hu (pv 0) pe_str (pe_bm0 PySem.F.plainAttrs_list PySem.F.slot_list_pop PySem.F.type_list_pop mt_pop (pe_dget hu (pv 0) pe_str (fun _ _ => rfl))) rfl)))
    (pss_cons (ps_set (i := 2) sc__law_pick.nd rfl (.inl rfl) (pe_dget hu (pv 0) pe_str (fun _ _ => rfl)))
    (pss_cons (ps_if (PW.pt (pw_or (pt_cmpR op_lt (pv 1) pe_int (nomark _)) (pw_or1 (pt_cmpR op_gt (pv 2) pe_int (nomark _)))))
        (pss_cons (ps_dput hu (pv 0) pe_str (pe_op op_fdivN (pv 2) (pe_callB (call_max2 rfl) (by rfl) mm (by decide +kernel) (pa_cons pe_int (pa_cons (pv 1) pa_nil)))) rfl)
          (pss_one (ps_ret (pe_op op_modN (pe_callTy call_int1 (by rfl) mi (by decide +kernel) (pa_cons (pv 2) pa_nil)) (pe_callB (call_max2 rfl) (by rfl) mm (by decide +kernel) (pa_cons pe_int (pa_cons (pv 1) pa_nil))))))) pss_nil)
    (pss_cons (ps_dput hu (pv 0) pe_str (pe_op op_add (pe_dget hu (pv 0) pe_str (fun _ _ => rfl)) pe_int) rfl)
    (pss_cons (ps_set (i := 3) sc__law_pick.nd rfl (.inl rfl) (pe_op op_modN (pe_callTy call_int1 (by rfl) mi (by decide +kernel) (pa_cons (pe_op op_add (pe_dget hu (pv 0) pe_str (fun _ _ => rfl)) (pe_op op_mul (pe_dget hu (pv 0) pe_str (fun _ _ => rfl)) pe_int)) pa_nil)) pe_int))
    (pss_cons (ps_set (i := 3) sc__law_pick.nd rfl (.inl rfl) (pe_op op_modN (pe_callTy call_int1 (by rfl) mi (by decide +kernel) (pa_cons (pe_op op_add (pe_op op_mul (pv 3) (pv 3)) (pe_op op_mul (pe_dget hu (pv 0) pe_str (fun _ _ => rfl)) pe_int)) pa_nil)) pe_int))
    (pss_cons (ps_dput hu (pv 0) pe_str (pv 3) rfl)
    (pss_one (ps_ret (pe_op op_modN (pe_callTy call_int1 (by rfl) mi (by decide +kernel) (pa_cons (pe_op op_fdivN (pv 3) pe_int) pa_nil)) (pv 1)))))))))), ?_⟩
  have hm : ∃ (many : Int) (s0 : Src) (a c : Addr), as = [none, some (.int many)] ∧ S = some s0 ∧ vs = [.ref a, .int many] ∧ Gs W H a c s0 H := by
    unfold fPick at e
    split at e
    case h_2 => cases e
    rename_i many s0
    cases ha with
    | cons h1 h2 =>
      cases h2 with
      | cons h2 h3 =>
        cases h3
        obtain ⟨a, c, g⟩ := Gs.of e0.src
        obtain ⟨a', c', e1, rfl⟩ := (show ∃ a c, W.src = some (a, c) ∧ _ = V.ref a from h1)
        rw [g.src] at e1
        cases e1
        have h2 : Den P w K W.N H _ (.int many) := h2
        cases h2
        exact ⟨_, _, _, _, rfl, rfl, rfl, g⟩
  obtain ⟨many, s0, a, c, rfl, rfl, rfl, g⟩ := hm
  have e : (pickS s0 many).map (fun r => (PyData.int r.1, Tag.cl, some r.2)) = some (d, t, S') := e
  unfold pickS at e
  by_cases hsm : many.natAbs < 1073741824
  case neg => rw [if_neg hsm] at e; cases e
  rw [if_pos hsm] at e
  dsimp only at e
  have hmx : ∀ {r : Int}, (if many > 1 then many else 1) = mx1 many := rfl
  have hm0 : mx1 many ≠ 0 := by unfold mx1; split <;> omega
  have hmb : (mx1 many).natAbs < 1073741824 := by unfold mx1; split <;> omega
  let σ0 : L2.St := [some (.ref a), some (.int many), none, none]
  have back : ∀ {s' : Src} {H' : Hp} {r : Int}, Gs W H a c s' H' → d = .int r → t = .cl → S' = some s' → Q (.int r) H' := fun {s' H' r} g' h1 h2 h3 => by
    subst h1 h2 h3
    exact q _ _ g'.kp g'.ok (.int _)
  refine drain_loop g fun H' cc l g1 hdr => ?_
  rw [hdr] at e
  dsimp only at e
  refine ⟨_, rfl, a, _, rfl, g1.gl, ?_⟩
  refine ⟨_, rfl, _, _, rfl, rfl, _, rfl, ?_⟩
  by_cases hc : many < 2 ∨ 1 < l
  · rw [if_pos hc] at e
    cases e
    have put : tSeq (sDPut (tVar 0) (tC (.str "left")) (tOp (rI CDivN fun i j => V.int (i.fdiv j)) (tVar 2) (tCB (fun xs H Q => ∃ i j, xs = [V.int i, V.int j] ∧ Q (V.int (if j > i then j else i)) H) (tCons (tC (.int 1)) (tCons (tVar 1) tNil)))))
        (tRet (tOp (rI (fun x j => j ≠ 0) fun i j => V.int (i.fmod j)) (tCB (fun xs H Q => (∃ i, xs = [V.int i] ∧ Q (V.int i) H) ∨ ∃ k, xs = [V.bl k] ∧ Q (V.int (if k = true then 1 else 0)) H) (tCons (tVar 2) tNil))
          (tCB (fun xs H Q => ∃ i j, xs = [V.int i, V.int j] ∧ Q (V.int (if j > i then j else i)) H) (tCons (tC (.int 1)) (tCons (tVar 1) tNil))))) { nx := fun x H' => Q V.non H', rt := Q } [some (.ref a), some (.int many), some (.int l), none] H' := by
      refine ⟨_, rfl, _, rfl, _, _, rfl, _, _, rfl, rfl, ⟨hm0, hmb⟩, _, rfl, a, _, rfl, g1.pl _, ?_⟩
      refine ⟨_, rfl, .inl ⟨_, rfl, _, rfl, _, _, rfl, _, _, rfl, rfl, hm0, ?_⟩⟩
      exact back (g1.upda rfl) rfl rfl rfl
    by_cases h1 : many < 2
    · rw [if_pos (decide_eq_true h1)]
      exact put
    · dsimp only
      rw [if_neg (by simp only [decide_eq_true_eq]; exact h1)]
      refine ⟨_, rfl, _, _, rfl, rfl, _, rfl, ?_⟩
      dsimp only
      rw [if_pos (decide_eq_true (hc.resolve_left h1))]
      exact put
  · rw [if_neg hc] at e
    cases e
    dsimp only
    rw [if_neg (by simp only [decide_eq_true_eq]; exact fun z => hc (.inl z))]
    refine ⟨_, rfl, _, _, rfl, rfl, _, rfl, ?_⟩
    dsimp only
    rw [if_neg (by simp only [decide_eq_true_eq]; exact fun z => hc (.inr z))]
    refine ⟨_, rfl, a, _, rfl, g1.gt, _, _, rfl, rfl, _, rfl, a, _, rfl, g1.pt _, ?_⟩
    have g2 := g1.upda (s' := { s0 with cells := cc, left := l, turn := s0.turn + 1 }) rfl
    refine ⟨_, rfl, a, _, rfl, g2.gm, _, rfl, a, _, rfl, g2.gt, _, _, rfl, rfl, .inr (by omega), _, _, rfl, rfl, .inl ⟨_, rfl, _, _, rfl, rfl, by omega, ?_⟩⟩
    have b1 := Int.fmod_nonneg_of_pos (s0.mixed + (s0.turn + 1) * 104729) (b := 998244353) (by omega)
    have b2 := Int.fmod_lt_of_pos (s0.mixed + (s0.turn + 1) * 104729) (b := 998244353) (by omega)
    refine ⟨_, rfl, _, rfl, _, _, rfl, rfl, .inl (by dsimp only; omega), _, rfl, a, _, rfl, g2.gt, _, _, rfl, rfl, .inr (by omega), _, _, rfl, rfl, .inl ⟨_, rfl, _, _, rfl, rfl, by omega, ?_⟩⟩
    refine ⟨_, rfl, _, rfl, a, _, rfl, g2.pm _, ?_⟩
    refine ⟨_, rfl, _, _, rfl, rfl, ⟨by decide, by decide⟩, .inl ⟨_, rfl, _, rfl, _, _, rfl, rfl, by omega, ?_⟩⟩
    exact back (g2.upda rfl) rfl rfl rfl

theorem sc__law_source : FnScope ["script", "mixed", "cell"] ["script"] (defScope (topS 11)) := ⟨rfl, rfl, rfl, by decide +kernel, rfl, by decide +kernel, by decide +kernel⟩
theorem fn__law_source {f : Addr} {fd : FuncData} (F : Fun K "_law_source" "_law_source" (topS 11) f fd) (T : Tx K mg) : FnG P w K mg base 1 f fd ["script"] (spSource K) := by
  refine fnG_of (k := 0) F sc__law_source (fun vs H Q E h => ?_) fun cdv A outer s H vs Q hg hr hsp => ?_
  · obtain ⟨a, ns, rfl, _⟩ := h; rfl
  have hu := hu_of hr
  have ma := T.z_abs
  have mi := T.z_int
  obtain ⟨a, ns, rfl, hS, hl, q⟩ := hsp
  refine ⟨_, pss_cons (ps_set (i := 1) sc__law_source.nd rfl (.inl rfl) pe_int)
    (pss_cons (ps_for PassesOwn.never rfl (pi_list (pv 0)) (pg_name (i := 2) sc__law_source.nd rfl (.inl rfl))
      (pss_one (ps_set (i := 1) sc__law_source.nd rfl (.inl rfl) (pe_op op_modN (pe_callTy call_int1 (by rfl) mi (by decide +kernel) (pa_cons (pe_op op_add (pe_op op_add (pe_op op_mul (pv 1) pe_int) (pe_op op_mul (pv 2) pe_int)) pe_int) pa_nil)) pe_int))))
    (pss_one (ps_ret (pe_disp (pps_cons pe_str (pe_revL (pe_lc (own := [("cell", 2)]) (g := gName 2) (tt := tYes) rfl sc__law_source.nd (pi_list (pv 0)) (blkOk_by (N := ["script", "mixed", "cell"]) (sc := defScope (topS 11)) (by decide +kernel))
        (fun _ _ _ _ _ => pg_name (i := 2) sc__law_source.nd rfl (.inl rfl)) (fun _ _ _ _ _ => pts_nil) (fun _ _ _ _ _ => pe_callB call_abs (by rfl) ma (by decide +kernel) (pa_cons (pv 2) pa_nil))))
      (pps_cons pe_str pe_int (pps_cons pe_str (pv 1) (pps_cons pe_str pe_int pps_nil)))) rfl rfl (by intro z; cases z) (by decide))))), ?_⟩
  refine ⟨_, rfl, a, rfl, ⟨_, hS⟩, for_list (K := K) (a := a) (xs := ns.map V.int) (fun i σ H2 => ∃ (m : Int) (v : Option V), σ = [some (.ref a), some (.int m), v] ∧ H2 = H) ⟨11, none, rfl, rfl⟩ (fun i σ H2 _ z => by obtain ⟨_, _, _, rfl⟩ := z; exact hS) ?_ ?_⟩
  · rintro i y σ H2 hi ⟨m, v, rfl, rfl⟩
    rw [List.getElem?_map] at hi
    obtain ⟨z, hz, rfl⟩ := Option.map_eq_some_iff.mp hi
    refine ⟨_, rfl, _, _, rfl, rfl, .inr (by omega), _, rfl, _, _, rfl, rfl, .inr (by omega), _, _, rfl, rfl, _, _, rfl, rfl, .inl ⟨_, rfl, _, _, rfl, rfl, by omega, ?_⟩⟩
    exact ⟨_, _, rfl, rfl⟩
  · rintro σ H2 ⟨m, v, rfl, rfl⟩
    intro p hp
    have s1 : Same H2 (upd H2 p (.dK [])) := fun b o e => (upd_ne (ne_of_none e hp)).trans e
    refine ⟨_, rfl, a, rfl, ⟨_, s1.seq hS⟩, fun D hD => lc_list (K := K) (a := a) (xs := ns.map V.int) (fun i H3 => H3 D = some (.lst ((ns.take i).map fun z => V.int (if z < 0 then -z else z))) ∧ ∀ b o, b ≠ D → (upd H2 p (.dK [])) b = some o → H3 b = some o) ⟨upd_same, fun b o n e => (upd_ne n).trans e⟩ (fun i H3 _ z => ?_) ?_ ?_⟩
    · exact Same.seq (fun b o e => z.2 b o (ne_of_none (s1 b o e) hD) (s1 b o e)) hS
    · rintro i y H3 hi ⟨z1, z2⟩
      rw [List.getElem?_map] at hi
      obtain ⟨z, hz, rfl⟩ := Option.map_eq_some_iff.mp hi
      refine ⟨rfl, _, rfl, _, rfl, _, z1, ?_, ?_, ?_⟩
      · rw [List.length_map, List.length_take, sizeLine_eq]
        omega
      · rw [upd_same, List.take_succ, hz, List.map_append]
        rfl
      · exact fun b o n e => (upd_ne n).trans (z2 b o n e)
    · rintro H3 ⟨z1, z2⟩
      rw [List.length_map, List.take_length] at z1
      have npD : p ≠ D := fun z => by rw [← z, upd_same] at hD; cases hD
      refine ⟨D, _, rfl, .inl (.inl z1), fun c hc => ?_⟩
      have npc : p ≠ c := fun z => by rw [← z, z2 p _ npD upd_same] at hc; cases hc
      have hcH : H2 c = none := by
        cases e : H2 c with
        | none => rfl
        | some u =>
          have nD : c ≠ D := ne_of_none (s1 c u e) hD
          rw [z2 c u nD (s1 c u e)] at hc; cases hc
      have hpp : upd H3 c (.lst ((ns.map fun z => V.int (if z < 0 then -z else z)).reverse)) p = some (.dK []) := (upd_ne npc).trans (z2 p _ npD upd_same)
      refine ⟨_, rfl, hpp, [(.inr "cells", .ref c), (.inr "left", .int 1), (.inr "mixed", .int m), (.inr "turn", .int 0)], rfl, (show (4 : Nat) ≤ 15 by decide), ?_⟩
      refine q ⟨((ns.map fun z => if z < 0 then -z else z).reverse), 1, m, 0⟩ p c _ hp hcH npc upd_same ?_ fun b u e => ?_
      · rw [upd_ne npc.symm, upd_same, List.map_reverse, List.map_map]
        rfl
      · rw [upd_ne (ne_of_none e hp), upd_ne (ne_of_none e hcH)]
        exact z2 b u (ne_of_none (s1 b u e) hD) (s1 b u e)

/-! box_cells -/
def N_box_cells : List Str := ["box", "found", "side", "cell", "i"]
def d_box_cells : SD := sSeq (sSet 1 (eLst (dCons (eTup (dNil)) (dNil)))) (sFz 1 (sSeq (sFor (iSeq Tag.cln (eVar 0)) (.n 2) (sSet 1 (eLc2 [3, 4] (iSeq Tag.rd (eVar 1)) (.n 3) (bYes) (iRan1 (dCons (eVar 2) (dNil))) [4] (.n 4) (bYes) (eTup (dStar (eVar 3) (dCons (eVar 4) (dNil))))))) (sFz 1 (sRet (eVar 1)))))
theorem sc_box_cells : FnScope N_box_cells ["box"] (defScope (topS 1)) := ⟨rfl, rfl, rfl, by decide +kernel, rfl, by decide +kernel, by decide +kernel⟩
theorem fn_box_cells {f : Addr} {fd : FuncData} (F : Fun K "box_cells" "box_cells" (topS 1) f fd) (T : Tx K mg) : FnG P w K mg base 1 f fd ["box"] (spD P w K 1 (runF 5 d_box_cells)) := by
  refine fnD_of (k := 0) (N := N_box_cells) F sc_box_cells fun cdv A outer s H hg hr => ?_
  have nd := sc_box_cells.nd
  have h64 : (A.deeper (PyProof.Rows.envOfC "box_cells" (defScope (topS 1)) s.heap.objs.size f cdv)).units + 64 < cLine := by have := hr.un; omega
  have h65 : (A.deeper (PyProof.Rows.envOfC "box_cells" (defScope (topS 1)) s.heap.objs.size f cdv)).units + 65 < cLine := by have := hr.un; omega
  have h70 : (A.deeper (PyProof.Rows.envOfC "box_cells" (defScope (topS 1)) s.heap.objs.size f cdv)).units + 70 < cLine := by have := hr.un; omega
  exact el_cons (es_set (i := 1) (ee_lst (ea_cons (ee_tup (ea_nil)) (ea_nil))) (hN := nd) (hi := rfl) (hx := .inl rfl)) (el_fz 1 (el_cons (es_for PassesOwn.never rfl (ei_seq (ee_var 0 (pv 0))) (eg_name (i := 2) nd rfl (.inr rfl)) (el_one (es_setLc2 (i := 1) (own := [("cell", 3), ("i", 4)]) (vs1 := [4]) (blkOk_by (N := N_box_cells) (sc := defScope (topS 1)) (by decide +kernel)) (eic_seq (ee_var 1 (pv 1))) (fun _ _ _ _ _ => eg_name (i := 3) nd rfl (.inl rfl)) (fun _ _ _ _ _ => ets_nil) (fun _ _ _ _ _ => ei_ran1 (by rfl) T.z_range (ea_cons (ee_var 2 (pv 2)) (ea_nil))) (fun _ _ _ _ _ => eg_name (i := 4) nd rfl (.inl rfl)) (fun _ _ _ _ _ => ets_nil) (fun _ _ _ _ _ => ee_tup (ea_star (ee_var 3 (pv 3)) (ea_cons (ee_var 4 (pv 4)) (ea_nil)))) (sw_true rfl rfl rfl (by decide +kernel)) rfl nd rfl rfl))) (el_fz 1 (el_one (es_ret (ee_var 1 (pv 1)))))))
/-! box_row -/
def N_box_row : List Str := ["box", "m", "found", "cell"]
def d_box_row : SD := sSeq (sSet 2 (eBin oMul (eLst (dCons (eC (.int (0))) (dNil))) (eVar 1))) (sSeq (sFor (iSeq Tag.cln (eFn (runF 5 d_box_cells) (dCons (eVar 0) (dNil)))) (.n 3) (sAugIx (fun a b => a + b) 2 (eBin oMod (eCall fSum (dCons (eVar 3) (dNil))) (eVar 1)) (eC (.int (1))))) (sFz 2 (sRet (eCall fTuple (dCons (eVar 2) (dNil))))))
theorem sc_box_row : FnScope N_box_row ["box", "m"] (defScope (topS 2)) := ⟨rfl, rfl, rfl, by decide +kernel, rfl, by decide +kernel, by decide +kernel⟩
theorem fn_box_row {f : Addr} {fd : FuncData} (F : Fun K "box_row" "box_row" (topS 2) f fd) (T : Tx K mg) : FnG P w K mg base 2 f fd ["box", "m"] (spD P w K 2 (runF 4 d_box_row)) := by
  obtain ⟨f_box_cells, fd_box_cells, F_box_cells, b_box_cells, m_box_cells, k_box_cells⟩ := T.f_box_cells
  have G_box_cells := (fn_box_cells (P := P) (w := w) (base := base) F_box_cells T).mono (show 1 ≤ 1 by decide)
  refine fnD_of (k := 1) (N := N_box_row) F sc_box_row fun cdv A outer s H hg hr => ?_
  have nd := sc_box_row.nd
  have h64 : (A.deeper (PyProof.Rows.envOfC "box_row" (defScope (topS 2)) s.heap.objs.size f cdv)).units + 64 < cLine := by have := hr.un; omega
  have h65 : (A.deeper (PyProof.Rows.envOfC "box_row" (defScope (topS 2)) s.heap.objs.size f cdv)).units + 65 < cLine := by have := hr.un; omega
  have h70 : (A.deeper (PyProof.Rows.envOfC "box_row" (defScope (topS 2)) s.heap.objs.size f cdv)).units + 70 < cLine := by have := hr.un; omega
  exact el_cons (es_set (i := 2) (ee_bin op_oMul (ee_lst (ea_cons (ee_int) (ea_nil))) (ee_var 1 (pv 1))) (hN := nd) (hi := rfl) (hx := .inl rfl)) (el_cons (es_for PassesOwn.never rfl (ei_seq (ee_fn G_box_cells m_box_cells k_box_cells b_box_cells hg hr (by rfl) (ea_cons (ee_var 0 (pv 0)) (ea_nil)) (n_cons n_nil))) (eg_name (i := 3) nd rfl (.inl rfl)) (el_one (es_augIx ip_add (pv 2) (ee_bin op_oMod (ee_callB (call_fSum rfl) (by rfl) T.z_sum (by decide +kernel) (ea_cons (ee_var 3 (pv 3)) (ea_nil))) (ee_var 1 (pv 1))) (ee_int)))) (el_fz 2 (el_one (es_ret (ee_callTy call_fTuple (by rfl) T.z_tuple (by decide +kernel) (ea_cons (ee_var 2 (pv 2)) (ea_nil)))))))
/-! box_paper -/
def N_box_paper : List Str := ["box", "m", "axis", "side", "row", "cell", "d"]
def d_box_paper : SD := sSeq (sFor (iEn Tag.cln (dCons (eVar 0) (dNil))) (.t [.n 2, .n 3]) (sIf (bT (eBin oEq (eBin oMod (eVar 3) (eVar 1)) (eC (.int (0))))) (sRet (eTup (dCons (eC (.str "laying")) (dCons (eCall fTuple (dCons (eLc [5] (iSeq Tag.rd (eFn (runF 5 d_box_cells) (dCons (eVar 0) (dNil)))) (.n 5) (bT (eBin oEq (eBin oMod (eBin oIxA (eVar 5) (eVar 2)) (eVar 1)) (eC (.int (0))))) (eTup (dCons (eVar 5) (dCons (eVar 2) (dNil))))) (dNil))) (dNil))))) (sNil))) (sSeq (sSet 4 (eFn (runF 4 d_box_row) (dCons (eVar 0) (dCons (eVar 1) (dNil))))) (sFz 4 (sRet (eTup (dCons (eC (.str "colours")) (dCons (eC (.int (0))) (dCons (eBin oIxA (eLc [6] (iRan1 (dCons (eVar 1) (dNil))) (.n 6) (bT (eBin oNe (eBin oIxA (eVar 4) (eVar 6)) (eBin oIxA (eVar 4) (eC (.int (0)))))) (eVar 6)) (eC (.int (0)))) (dNil))))))))
theorem sc_box_paper : FnScope N_box_paper ["box", "m"] (defScope (topS 3)) := ⟨rfl, rfl, rfl, by decide +kernel, rfl, by decide +kernel, by decide +kernel⟩
theorem fn_box_paper {f : Addr} {fd : FuncData} (F : Fun K "box_paper" "box_paper" (topS 3) f fd) (T : Tx K mg) : FnG P w K mg base 3 f fd ["box", "m"] (spD P w K 2 (runF 7 d_box_paper)) := by
  obtain ⟨f_box_cells, fd_box_cells, F_box_cells, b_box_cells, m_box_cells, k_box_cells⟩ := T.f_box_cells
  have G_box_cells := (fn_box_cells (P := P) (w := w) (base := base) F_box_cells T).mono (show 1 ≤ 2 by decide)
  obtain ⟨f_box_row, fd_box_row, F_box_row, b_box_row, m_box_row, k_box_row⟩ := T.f_box_row
  have G_box_row := (fn_box_row (P := P) (w := w) (base := base) F_box_row T).mono (show 2 ≤ 2 by decide)
  refine fnD_of (k := 2) (N := N_box_paper) F sc_box_paper fun cdv A outer s H hg hr => ?_
  have nd := sc_box_paper.nd
  have h64 : (A.deeper (PyProof.Rows.envOfC "box_paper" (defScope (topS 3)) s.heap.objs.size f cdv)).units + 64 < cLine := by have := hr.un; omega
  have h65 : (A.deeper (PyProof.Rows.envOfC "box_paper" (defScope (topS 3)) s.heap.objs.size f cdv)).units + 65 < cLine := by have := hr.un; omega
  have h70 : (A.deeper (PyProof.Rows.envOfC "box_paper" (defScope (topS 3)) s.heap.objs.size f cdv)).units + 70 < cLine := by have := hr.un; omega
  exact el_cons (es_for PassesOwn.never rfl (ei_enum (by rfl) T.z_enumerate (ea_cons (ee_var 0 (pv 0)) (ea_nil))) (eg_tup rfl (egs_cons (eg_name (i := 2) nd rfl (.inr rfl)) (egs_cons (eg_name (i := 3) nd rfl (.inl rfl)) (egs_nil)))) (el_one (es_if (eb_cmp (op_oEq h64) (ee_bin op_oMod (ee_var 3 (pv 3)) (ee_var 1 (pv 1))) (ee_int) (nomark _)) (el_one (es_ret (ee_tup (ea_cons (ee_str) (ea_cons (ee_callTy call_fTuple (by rfl) T.z_tuple (by decide +kernel) (ea_cons (ee_lc (own := [("cell", 5)]) (blkOk_by (N := N_box_paper) (sc := defScope (topS 3)) (by decide +kernel)) (eic_seq (ee_fn G_box_cells m_box_cells k_box_cells b_box_cells hg hr (by rfl) (ea_cons (ee_var 0 (pv 0)) (ea_nil)) (n_cons n_nil))) (fun _ _ _ _ _ => eg_name (i := 5) nd rfl (.inl rfl)) (fun _ _ _ _ _ => ets_one (eb_cmp (op_oEq h64) (ee_bin op_oMod (ee_ixA h64 (ee_var 5 (pv 5)) (ee_var 2 (pv 2))) (ee_var 1 (pv 1))) (ee_int) (nomark _))) (fun _ _ _ _ _ => ee_tup (ea_cons (ee_var 5 (pv 5)) (ea_cons (ee_var 2 (pv 2)) (ea_nil)))) nd rfl) (ea_nil))) (ea_nil)))))) (el_nil)))) (el_cons (es_set (i := 4) (ee_fn G_box_row m_box_row k_box_row b_box_row hg hr (by rfl) (ea_cons (ee_var 0 (pv 0)) (ea_cons (ee_var 1 (pv 1)) (ea_nil))) (n_cons (n_cons n_nil))) (hN := nd) (hi := rfl) (hx := .inr rfl)) (el_fz 4 (el_one (es_ret (ee_tup (ea_cons (ee_str) (ea_cons (ee_int) (ea_cons (ee_ixA h64 (ee_lc (own := [("d", 6)]) (blkOk_by (N := N_box_paper) (sc := defScope (topS 3)) (by decide +kernel)) (eic_ran1 (by rfl) T.z_range (ea_cons (ee_var 1 (pv 1)) (ea_nil))) (fun _ _ _ _ _ => eg_name (i := 6) nd rfl (.inl rfl)) (fun _ _ _ _ _ => ets_one (eb_cmp (op_oNe h64) (ee_ixA h64 (ee_var 4 (pv 4)) (ee_var 6 (pv 6))) (ee_ixA h64 (ee_var 4 (pv 4)) (ee_int)) (nomark _))) (fun _ _ _ _ _ => ee_var 6 (pv 6)) nd rfl) (ee_int)) (ea_nil)))))))))
/-! is_number -/
def N_is_number : List Str := ["value"]
def d_is_number : SD := sRet (eAnd (eIsi "int" (eVar 0)) (eNot (eIsi "bool" (eVar 0))))
theorem sc_is_number : FnScope N_is_number ["value"] (defScope (topS 4)) := ⟨rfl, rfl, rfl, by decide +kernel, rfl, by decide +kernel, by decide +kernel⟩
theorem fn_is_number {f : Addr} {fd : FuncData} (F : Fun K "is_number" "is_number" (topS 4) f fd) (T : Tx K mg) : FnG P w K mg base 1 f fd ["value"] (spD P w K 1 (runF 1 d_is_number)) := by
  refine fnD_of (k := 0) (N := N_is_number) F sc_is_number fun cdv A outer s H hg hr => ?_
  have nd := sc_is_number.nd
  have h64 : (A.deeper (PyProof.Rows.envOfC "is_number" (defScope (topS 4)) s.heap.objs.size f cdv)).units + 64 < cLine := by have := hr.un; omega
  have h65 : (A.deeper (PyProof.Rows.envOfC "is_number" (defScope (topS 4)) s.heap.objs.size f cdv)).units + 65 < cLine := by have := hr.un; omega
  have h70 : (A.deeper (PyProof.Rows.envOfC "is_number" (defScope (topS 4)) s.heap.objs.size f cdv)).units + 70 < cLine := by have := hr.un; omega
  exact el_one (es_ret (ee_and (ee_isi (by rfl) T.z_isinstance (ee_var 0 (pv 0)) (by rfl) T.z_int (by decide +kernel)) (ee_one (ee_not (ee_isi (by rfl) T.z_isinstance (ee_var 0 (pv 0)) (by rfl) T.z_bool (by decide +kernel))))))
/-! is_box_cell -/
def N_is_box_cell : List Str := ["box", "value", "i", "side"]
def d_is_box_cell : SD := sSeq (sIf (bOr (bNot (bTru (eIsi "tuple" (eVar 1)))) (bT (eBin oNe (eCall fLen (dCons (eVar 1) (dNil))) (eCall fLen (dCons (eVar 0) (dNil)))))) (sRet (eC (.bool false))) (sNil)) (sRet (eCall fAll (dCons (eLc [2, 3] (iZpS Tag.rd (dCons (eVar 1) (dCons (eVar 0) (dNil)))) (.t [.n 2, .n 3]) (bYes) (eAnd (eFn (runF 1 d_is_number) (dCons (eVar 2) (dNil))) (eChain oLeA oLtA (eC (.int (0))) (eVar 2) (eVar 3)))) (dNil))))
theorem sc_is_box_cell : FnScope N_is_box_cell ["box", "value"] (defScope (topS 5)) := ⟨rfl, rfl, rfl, by decide +kernel, rfl, by decide +kernel, by decide +kernel⟩
theorem fn_is_box_cell {f : Addr} {fd : FuncData} (F : Fun K "is_box_cell" "is_box_cell" (topS 5) f fd) (T : Tx K mg) : FnG P w K mg base 2 f fd ["box", "value"] (spD P w K 2 (runF 4 d_is_box_cell)) := by
  obtain ⟨f_is_number, fd_is_number, F_is_number, b_is_number, m_is_number, k_is_number⟩ := T.f_is_number
  have G_is_number := (fn_is_number (P := P) (w := w) (base := base) F_is_number T).mono (show 1 ≤ 1 by decide)
  refine fnD_of (k := 1) (N := N_is_box_cell) F sc_is_box_cell fun cdv A outer s H hg hr => ?_
  have nd := sc_is_box_cell.nd
  have h64 : (A.deeper (PyProof.Rows.envOfC "is_box_cell" (defScope (topS 5)) s.heap.objs.size f cdv)).units + 64 < cLine := by have := hr.un; omega
  have h65 : (A.deeper (PyProof.Rows.envOfC "is_box_cell" (defScope (topS 5)) s.heap.objs.size f cdv)).units + 65 < cLine := by have := hr.un; omega
  have h70 : (A.deeper (PyProof.Rows.envOfC "is_box_cell" (defScope (topS 5)) s.heap.objs.size f cdv)).units + 70 < cLine := by have := hr.un; omega
  exact el_cons (es_if (eb_w (ew_or (eb_not (eb_tru (ee_isi (by rfl) T.z_isinstance (ee_var 1 (pv 1)) (by rfl) T.z_tuple (by decide +kernel)))) (ew_or1 (eb_cmp (op_oNe h64) (ee_callB call_fLen (by rfl) T.z_len (by decide +kernel) (ea_cons (ee_var 1 (pv 1)) (ea_nil))) (ee_callB call_fLen (by rfl) T.z_len (by decide +kernel) (ea_cons (ee_var 0 (pv 0)) (ea_nil))) (nomark _))))) (el_one (es_ret (ee_bl))) (el_nil)) (el_one (es_ret (ee_callB (call_fAll rfl) (by rfl) T.z_all (by decide +kernel) (ea_cons (ee_lc (own := [("i", 2), ("side", 3)]) (blkOk_by (N := N_is_box_cell) (sc := defScope (topS 5)) (by decide +kernel)) (eic_zipS (by rfl) T.z_zip (ea_cons (ee_var 1 (pv 1)) (ea_cons (ee_var 0 (pv 0)) (ea_nil)))) (fun _ _ _ _ _ => eg_tup rfl (egs_cons (eg_name (i := 2) nd rfl (.inl rfl)) (egs_cons (eg_name (i := 3) nd rfl (.inl rfl)) (egs_nil)))) (fun _ _ _ _ _ => ets_nil) (fun _ _ _ _ _ => ee_and (ee_fn G_is_number m_is_number k_is_number b_is_number hg hr (by rfl) (ea_cons (ee_var 2 (pv 2)) (ea_nil)) (n_cons n_nil)) (ee_one (ee_chain (op_oLeA h70) (op_oLtA h70) (ee_int) (ee_var 2 (pv 2)) (ee_var 3 (pv 3))))) nd rfl) (ea_nil)))))
/-! is_box_bar -/
def N_is_box_bar : List Str := ["box", "value"]
def d_is_box_bar : SD := sSeq (sIf (bOr (bNot (bTru (eIsi "tuple" (eVar 1)))) (bOr (bT (eBin oNe (eCall fLen (dCons (eVar 1) (dNil))) (eC (.int (2))))) (bNot (bTru (eFn (runF 4 d_is_box_cell) (dCons (eVar 0) (dCons (eBin oIxA (eVar 1) (eC (.int (0)))) (dNil)))))))) (sRet (eC (.bool false))) (sNil)) (sRet (eAnd (eFn (runF 1 d_is_number) (dCons (eBin oIxA (eVar 1) (eC (.int (1)))) (dNil))) (eChain oLeA oLtA (eC (.int (0))) (eBin oIxA (eVar 1) (eC (.int (1)))) (eCall fLen (dCons (eVar 0) (dNil))))))
theorem sc_is_box_bar : FnScope N_is_box_bar ["box", "value"] (defScope (topS 6)) := ⟨rfl, rfl, rfl, by decide +kernel, rfl, by decide +kernel, by decide +kernel⟩
theorem fn_is_box_bar {f : Addr} {fd : FuncData} (F : Fun K "is_box_bar" "is_box_bar" (topS 6) f fd) (T : Tx K mg) : FnG P w K mg base 3 f fd ["box", "value"] (spD P w K 2 (runF 2 d_is_box_bar)) := by
  obtain ⟨f_is_box_cell, fd_is_box_cell, F_is_box_cell, b_is_box_cell, m_is_box_cell, k_is_box_cell⟩ := T.f_is_box_cell
  have G_is_box_cell := (fn_is_box_cell (P := P) (w := w) (base := base) F_is_box_cell T).mono (show 2 ≤ 2 by decide)
  obtain ⟨f_is_number, fd_is_number, F_is_number, b_is_number, m_is_number, k_is_number⟩ := T.f_is_number
  have G_is_number := (fn_is_number (P := P) (w := w) (base := base) F_is_number T).mono (show 1 ≤ 2 by decide)
  refine fnD_of (k := 2) (N := N_is_box_bar) F sc_is_box_bar fun cdv A outer s H hg hr => ?_
  have nd := sc_is_box_bar.nd
  have h64 : (A.deeper (PyProof.Rows.envOfC "is_box_bar" (defScope (topS 6)) s.heap.objs.size f cdv)).units + 64 < cLine := by have := hr.un; omega
  have h65 : (A.deeper (PyProof.Rows.envOfC "is_box_bar" (defScope (topS 6)) s.heap.objs.size f cdv)).units + 65 < cLine := by have := hr.un; omega
  have h70 : (A.deeper (PyProof.Rows.envOfC "is_box_bar" (defScope (topS 6)) s.heap.objs.size f cdv)).units + 70 < cLine := by have := hr.un; omega
  exact el_cons (es_if (eb_w (ew_or (eb_not (eb_tru (ee_isi (by rfl) T.z_isinstance (ee_var 1 (pv 1)) (by rfl) T.z_tuple (by decide +kernel)))) (ew_or (eb_cmp (op_oNe h64) (ee_callB call_fLen (by rfl) T.z_len (by decide +kernel) (ea_cons (ee_var 1 (pv 1)) (ea_nil))) (ee_int) (nomark _)) (ew_or1 (eb_not (eb_tru (ee_fn G_is_box_cell m_is_box_cell k_is_box_cell b_is_box_cell hg hr (by rfl) (ea_cons (ee_var 0 (pv 0)) (ea_cons (ee_ixA h64 (ee_var 1 (pv 1)) (ee_int)) (ea_nil))) (n_cons (n_cons n_nil))))))))) (el_one (es_ret (ee_bl))) (el_nil)) (el_one (es_ret (ee_and (ee_fn G_is_number m_is_number k_is_number b_is_number hg hr (by rfl) (ea_cons (ee_ixA h64 (ee_var 1 (pv 1)) (ee_int)) (ea_nil)) (n_cons n_nil)) (ee_one (ee_chain (op_oLeA h70) (op_oLtA h70) (ee_int) (ee_ixA h64 (ee_var 1 (pv 1)) (ee_int)) (ee_callB call_fLen (by rfl) T.z_len (by decide +kernel) (ea_cons (ee_var 0 (pv 0)) (ea_nil))))))))
/-! bar_cells -/
def N_bar_cells : List Str := ["cell", "axis", "m", "i"]
def d_bar_cells : SD := sRet (eLc [3] (iRan1 (dCons (eVar 2) (dNil))) (.n 3) (bYes) (eTup (dStar (eSl (eVar 0) (pNone) (pSome (eVar 1))) (dCons (eBin oAdd (eBin oIxA (eVar 0) (eVar 1)) (eVar 3)) (dStar (eSl (eVar 0) (pSome (eBin oAdd (eVar 1) (eC (.int (1))))) (pNone)) (dNil))))))
theorem sc_bar_cells : FnScope N_bar_cells ["cell", "axis", "m"] (defScope (topS 7)) := ⟨rfl, rfl, rfl, by decide +kernel, rfl, by decide +kernel, by decide +kernel⟩
theorem fn_bar_cells {f : Addr} {fd : FuncData} (F : Fun K "bar_cells" "bar_cells" (topS 7) f fd) (T : Tx K mg) : FnG P w K mg base 1 f fd ["cell", "axis", "m"] (spD P w K 3 (runF 4 d_bar_cells)) := by
  refine fnD_of (k := 0) (N := N_bar_cells) F sc_bar_cells fun cdv A outer s H hg hr => ?_
  have nd := sc_bar_cells.nd
  have h64 : (A.deeper (PyProof.Rows.envOfC "bar_cells" (defScope (topS 7)) s.heap.objs.size f cdv)).units + 64 < cLine := by have := hr.un; omega
  have h65 : (A.deeper (PyProof.Rows.envOfC "bar_cells" (defScope (topS 7)) s.heap.objs.size f cdv)).units + 65 < cLine := by have := hr.un; omega
  have h70 : (A.deeper (PyProof.Rows.envOfC "bar_cells" (defScope (topS 7)) s.heap.objs.size f cdv)).units + 70 < cLine := by have := hr.un; omega
  exact el_one (es_ret (ee_lc (own := [("i", 3)]) (blkOk_by (N := N_bar_cells) (sc := defScope (topS 7)) (by decide +kernel)) (eic_ran1 (by rfl) T.z_range (ea_cons (ee_var 2 (pv 2)) (ea_nil))) (fun _ _ _ _ _ => eg_name (i := 3) nd rfl (.inl rfl)) (fun _ _ _ _ _ => ets_nil) (fun _ _ _ _ _ => ee_tup (ea_star (ee_sl (ee_var 0 (pv 0)) (eo_none) (eo_some (ee_var 1 (pv 1)))) (ea_cons (ee_bin op_oAdd (ee_ixA h64 (ee_var 0 (pv 0)) (ee_var 1 (pv 1))) (ee_var 3 (pv 3))) (ea_star (ee_sl (ee_var 0 (pv 0)) (eo_some (ee_bin op_oAdd (ee_var 1 (pv 1)) (ee_int))) (eo_none)) (ea_nil))))) nd rfl))
/-! bars_fault -/
def N_bars_fault : List Str := ["box", "m", "bars", "i", "cell", "axis", "covered", "late", "lacking"]
def d_bars_fault : SD := sSeq (sFor (iRan2 (dCons (eC (.int (1))) (dCons (eCall fLen (dCons (eVar 2) (dNil))) (dNil)))) (.n 3) (sIf (bT (eBin oLeA (eBin oIxA (eVar 2) (eVar 3)) (eBin oIxA (eVar 2) (eBin oSub (eVar 3) (eC (.int (1))))))) (sRet (eTup (dCons (eC (.str "order")) (dCons (eVar 3) (dNil))))) (sNil))) (sSeq (sFor (iEn Tag.cln (dCons (eVar 2) (dNil))) (.t [.n 3, .t [.n 4, .n 5]]) (sIf (bT (eBin oGtA (eBin oAdd (eBin oIxA (eVar 4) (eVar 5)) (eVar 1)) (eBin oIxA (eVar 0) (eVar 5)))) (sRet (eTup (dCons (eC (.str "out")) (dCons (eVar 3) (dNil))))) (sNil))) (sSeq (sSet 6 (eDct0)) (sSeq (sFor (iEn Tag.cln (dCons (eVar 2) (dNil))) (.t [.n 3, .t [.n 4, .n 5]]) (sFor (iSeq Tag.cln (eFn (runF 4 d_bar_cells) (dCons (eVar 4) (dCons (eVar 5) (dCons (eVar 1) (dNil)))))) (.n 7) (sSeq (sIf (bT (eBin oInA (eVar 7) (eVar 6))) (sRet (eTup (dCons (eC (.str "twice")) (dCons (eVar 3) (dNil))))) (sNil)) (sSetA 6 (eVar 7) (eC (.bool true)))))) (sFz 6 (sSeq (sSet 8 (eLc [4] (iSeq Tag.rd (eFn (runF 5 d_box_cells) (dCons (eVar 0) (dNil)))) (.n 4) (bT (eBin oNotInA (eVar 4) (eVar 6))) (eVar 4))) (sFz 8 (sRet (eIf (bTru (eVar 8)) (eTup (dCons (eC (.str "lacks")) (dCons (eBin oIxA (eVar 8) (eC (.int (0)))) (dNil)))) (eC .none)))))))))
theorem sc_bars_fault : FnScope N_bars_fault ["box", "m", "bars"] (defScope (topS 8)) := ⟨rfl, rfl, rfl, by decide +kernel, rfl, by decide +kernel, by decide +kernel⟩
theorem fn_bars_fault {f : Addr} {fd : FuncData} (F : Fun K "bars_fault" "bars_fault" (topS 8) f fd) (T : Tx K mg) : FnG P w K mg base 2 f fd ["box", "m", "bars"] (spD P w K 3 (runF 9 d_bars_fault)) := by
  obtain ⟨f_bar_cells, fd_bar_cells, F_bar_cells, b_bar_cells, m_bar_cells, k_bar_cells⟩ := T.f_bar_cells
  have G_bar_cells := (fn_bar_cells (P := P) (w := w) (base := base) F_bar_cells T).mono (show 1 ≤ 1 by decide)
  obtain ⟨f_box_cells, fd_box_cells, F_box_cells, b_box_cells, m_box_cells, k_box_cells⟩ := T.f_box_cells
  have G_box_cells := (fn_box_cells (P := P) (w := w) (base := base) F_box_cells T).mono (show 1 ≤ 1 by decide)
  refine fnD_of (k := 1) (N := N_bars_fault) F sc_bars_fault fun cdv A outer s H hg hr => ?_
  have nd := sc_bars_fault.nd
  have h64 : (A.deeper (PyProof.Rows.envOfC "bars_fault" (defScope (topS 8)) s.heap.objs.size f cdv)).units + 64 < cLine := by have := hr.un; omega
  have h65 : (A.deeper (PyProof.Rows.envOfC "bars_fault" (defScope (topS 8)) s.heap.objs.size f cdv)).units + 65 < cLine := by have := hr.un; omega
  have h70 : (A.deeper (PyProof.Rows.envOfC "bars_fault" (defScope (topS 8)) s.heap.objs.size f cdv)).units + 70 < cLine := by have := hr.un; omega
  exact el_cons (es_for PassesOwn.never rfl (ei_ran2 (by rfl) T.z_range (ea_cons (ee_int) (ea_cons (ee_callB call_fLen (by rfl) T.z_len (by decide +kernel) (ea_cons (ee_var 2 (pv 2)) (ea_nil))) (ea_nil)))) (eg_name (i := 3) nd rfl (.inl rfl)) (el_one (es_if (eb_cmp (op_oLeA h70) (ee_ixA h64 (ee_var 2 (pv 2)) (ee_var 3 (pv 3))) (ee_ixA h64 (ee_var 2 (pv 2)) (ee_bin op_oSub (ee_var 3 (pv 3)) (ee_int))) (nomark _)) (el_one (es_ret (ee_tup (ea_cons (ee_str) (ea_cons (ee_var 3 (pv 3)) (ea_nil)))))) (el_nil)))) (el_cons (es_for PassesOwn.never rfl (ei_enum (by rfl) T.z_enumerate (ea_cons (ee_var 2 (pv 2)) (ea_nil))) (eg_tup rfl (egs_cons (eg_name (i := 3) nd rfl (.inl rfl)) (egs_cons (eg_tup rfl (egs_cons (eg_name (i := 4) nd rfl (.inl rfl)) (egs_cons (eg_name (i := 5) nd rfl (.inl rfl)) (egs_nil)))) (egs_nil)))) (el_one (es_if (eb_cmp (op_oGtA h70) (ee_bin op_oAdd (ee_ixA h64 (ee_var 4 (pv 4)) (ee_var 5 (pv 5))) (ee_var 1 (pv 1))) (ee_ixA h64 (ee_var 0 (pv 0)) (ee_var 5 (pv 5))) (nomark _)) (el_one (es_ret (ee_tup (ea_cons (ee_str) (ea_cons (ee_var 3 (pv 3)) (ea_nil)))))) (el_nil)))) (el_cons (es_set (i := 6) (ee_dct0) (hN := nd) (hi := rfl) (hx := .inr rfl)) (el_cons (es_for PassesOwn.never rfl (ei_enum (by rfl) T.z_enumerate (ea_cons (ee_var 2 (pv 2)) (ea_nil))) (eg_tup rfl (egs_cons (eg_name (i := 3) nd rfl (.inl rfl)) (egs_cons (eg_tup rfl (egs_cons (eg_name (i := 4) nd rfl (.inl rfl)) (egs_cons (eg_name (i := 5) nd rfl (.inl rfl)) (egs_nil)))) (egs_nil)))) (el_one (es_for PassesOwn.never rfl (ei_seq (ee_fn G_bar_cells m_bar_cells k_bar_cells b_bar_cells hg hr (by rfl) (ea_cons (ee_var 4 (pv 4)) (ea_cons (ee_var 5 (pv 5)) (ea_cons (ee_var 1 (pv 1)) (ea_nil)))) (n_cons (n_cons (n_cons n_nil))))) (eg_name (i := 7) nd rfl (.inl rfl)) (el_cons (es_if (eb_cmp (op_oInA h65) (ee_var 7 (pv 7)) (ee_var 6 (pv 6)) (by rfl)) (el_one (es_ret (ee_tup (ea_cons (ee_str) (ea_cons (ee_var 3 (pv 3)) (ea_nil)))))) (el_nil)) (el_one (es_setA h64 (pv 6) (ee_var 7 (pv 7)) (ee_bl))))))) (el_fz 6 (el_cons (es_setLc (i := 8) (own := [("cell", 4)]) (blkOk_by (N := N_bars_fault) (sc := defScope (topS 8)) (by decide +kernel)) (eic_seq (ee_fn G_box_cells m_box_cells k_box_cells b_box_cells hg hr (by rfl) (ea_cons (ee_var 0 (pv 0)) (ea_nil)) (n_cons n_nil))) (fun _ _ _ _ _ => eg_name (i := 4) nd rfl (.inl rfl)) (fun _ _ _ _ _ => ets_one (eb_cmp (op_oNotInA h65) (ee_var 4 (pv 4)) (ee_var 6 (pv 6)) (by rfl))) (fun _ _ _ _ _ => ee_var 4 (pv 4)) (sw_true rfl rfl rfl (by decide +kernel)) rfl nd rfl rfl) (el_fz 8 (el_one (es_ret (ee_if (eb_tru (ee_var 8 (pv 8))) (ee_tup (ea_cons (ee_str) (ea_cons (ee_ixA h64 (ee_var 8 (pv 8)) (ee_int)) (ea_nil)))) (ee_non))))))))))
/-! judge_box -/
def N_judge_box : List Str := ["box", "m", "value", "is_form", "row", "bar"]
def d_judge_box : SD := sSeq (sIf (bOr (bNot (bTru (eIsi "tuple" (eVar 2)))) (bOr (bT (eBin oNotInA (eCall fLen (dCons (eVar 2) (dNil))) (eTup (dCons (eC (.int (2))) (dCons (eC (.int (3))) (dNil)))))) (bNot (bTru (eIsi "str" (eBin oIxA (eVar 2) (eC (.int (0))))))))) (sRet (eTup (dCons (eC (.str "form")) (dNil)))) (sNil)) (sSeq (sIf (bAnd (bT (eBin oEq (eBin oIxA (eVar 2) (eC (.int (0)))) (eC (.str "laying")))) (bAnd (bT (eBin oEq (eCall fLen (dCons (eVar 2) (dNil))) (eC (.int (2))))) (bTru (eIsi "tuple" (eBin oIxA (eVar 2) (eC (.int (1)))))))) (sSeq (sSet 3 (eCall fAll (dCons (eLc [5] (iSeq Tag.rd (eBin oIxA (eVar 2) (eC (.int (1))))) (.n 5) (bYes) (eFn (runF 2 d_is_box_bar) (dCons (eVar 0) (dCons (eVar 5) (dNil))))) (dNil)))) (sFz 3 (sRet (eIf (bTru (eVar 3)) (eFn (runF 9 d_bars_fault) (dCons (eVar 0) (dCons (eVar 1) (dCons (eBin oIxA (eVar 2) (eC (.int (1)))) (dNil))))) (eTup (dCons (eC (.str "form")) (dNil))))))) (sNil)) (sFz 3 (sSeq (sIf (bOr (bT (eBin oNe (eBin oIxA (eVar 2) (eC (.int (0)))) (eC (.str "colours")))) (bOr (bT (eBin oNe (eCall fLen (dCons (eVar 2) (dNil))) (eC (.int (3))))) (bOr (bNot (bTru (eFn (runF 1 d_is_number) (dCons (eBin oIxA (eVar 2) (eC (.int (1)))) (dNil))))) (bNot (bTru (eFn (runF 1 d_is_number) (dCons (eBin oIxA (eVar 2) (eC (.int (2)))) (dNil)))))))) (sRet (eTup (dCons (eC (.str "form")) (dNil)))) (sNil)) (sSeq (sIf (bNot (bChain3 oLeA oLtA oLtA (eC (.int (0))) (eBin oIxA (eVar 2) (eC (.int (1)))) (eBin oIxA (eVar 2) (eC (.int (2)))) (eVar 1))) (sRet (eTup (dCons (eC (.str "range")) (dNil)))) (sNil)) (sSeq (sSet 4 (eFn (runF 4 d_box_row) (dCons (eVar 0) (dCons (eVar 1) (dNil))))) (sFz 4 (sRet (eIf (bT (eBin oEq (eBin oIxA (eVar 4) (eBin oIxA (eVar 2) (eC (.int (1))))) (eBin oIxA (eVar 4) (eBin oIxA (eVar 2) (eC (.int (2))))))) (eTup (dCons (eC (.str "like")) (dNil))) (eC .none)))))))))
theorem sc_judge_box : FnScope N_judge_box ["box", "m", "value"] (defScope (topS 9)) := ⟨rfl, rfl, rfl, by decide +kernel, rfl, by decide +kernel, by decide +kernel⟩
theorem fn_judge_box {f : Addr} {fd : FuncData} (F : Fun K "judge_box" "judge_box" (topS 9) f fd) (T : Tx K mg) : FnG P w K mg base 4 f fd ["box", "m", "value"] (spD P w K 3 (runF 6 d_judge_box)) := by
  obtain ⟨f_bars_fault, fd_bars_fault, F_bars_fault, b_bars_fault, m_bars_fault, k_bars_fault⟩ := T.f_bars_fault
  have G_bars_fault := (fn_bars_fault (P := P) (w := w) (base := base) F_bars_fault T).mono (show 2 ≤ 3 by decide)
  obtain ⟨f_box_row, fd_box_row, F_box_row, b_box_row, m_box_row, k_box_row⟩ := T.f_box_row
  have G_box_row := (fn_box_row (P := P) (w := w) (base := base) F_box_row T).mono (show 2 ≤ 3 by decide)
  obtain ⟨f_is_box_bar, fd_is_box_bar, F_is_box_bar, b_is_box_bar, m_is_box_bar, k_is_box_bar⟩ := T.f_is_box_bar
  have G_is_box_bar := (fn_is_box_bar (P := P) (w := w) (base := base) F_is_box_bar T).mono (show 3 ≤ 3 by decide)
  obtain ⟨f_is_number, fd_is_number, F_is_number, b_is_number, m_is_number, k_is_number⟩ := T.f_is_number
  have G_is_number := (fn_is_number (P := P) (w := w) (base := base) F_is_number T).mono (show 1 ≤ 3 by decide)
  refine fnD_of (k := 3) (N := N_judge_box) F sc_judge_box fun cdv A outer s H hg hr => ?_
  have nd := sc_judge_box.nd
  have h64 : (A.deeper (PyProof.Rows.envOfC "judge_box" (defScope (topS 9)) s.heap.objs.size f cdv)).units + 64 < cLine := by have := hr.un; omega
  have h65 : (A.deeper (PyProof.Rows.envOfC "judge_box" (defScope (topS 9)) s.heap.objs.size f cdv)).units + 65 < cLine := by have := hr.un; omega
  have h70 : (A.deeper (PyProof.Rows.envOfC "judge_box" (defScope (topS 9)) s.heap.objs.size f cdv)).units + 70 < cLine := by have := hr.un; omega
  exact el_cons (es_if (eb_w (ew_or (eb_not (eb_tru (ee_isi (by rfl) T.z_isinstance (ee_var 2 (pv 2)) (by rfl) T.z_tuple (by decide +kernel)))) (ew_or (eb_cmp (op_oNotInA h65) (ee_callB call_fLen (by rfl) T.z_len (by decide +kernel) (ea_cons (ee_var 2 (pv 2)) (ea_nil))) (ee_tup (ea_cons (ee_int) (ea_cons (ee_int) (ea_nil)))) (by rfl)) (ew_or1 (eb_not (eb_tru (ee_isi (by rfl) T.z_isinstance (ee_ixA h64 (ee_var 2 (pv 2)) (ee_int)) (by rfl) T.z_str (by decide +kernel)))))))) (el_one (es_ret (ee_tup (ea_cons (ee_str) (ea_nil))))) (el_nil)) (el_cons (es_if (eb_w (ew_and (eb_cmp (op_oEq h64) (ee_ixA h64 (ee_var 2 (pv 2)) (ee_int)) (ee_str) (nomark _)) (ew_and (eb_cmp (op_oEq h64) (ee_callB call_fLen (by rfl) T.z_len (by decide +kernel) (ea_cons (ee_var 2 (pv 2)) (ea_nil))) (ee_int) (nomark _)) (ew_and1 (eb_tru (ee_isi (by rfl) T.z_isinstance (ee_ixA h64 (ee_var 2 (pv 2)) (ee_int)) (by rfl) T.z_tuple (by decide +kernel))))))) (el_cons (es_set (i := 3) (ee_callB (call_fAll rfl) (by rfl) T.z_all (by decide +kernel) (ea_cons (ee_lc (own := [("bar", 5)]) (blkOk_by (N := N_judge_box) (sc := defScope (topS 9)) (by decide +kernel)) (eic_seq (ee_ixA h64 (ee_var 2 (pv 2)) (ee_int))) (fun _ _ _ _ _ => eg_name (i := 5) nd rfl (.inl rfl)) (fun _ _ _ _ _ => ets_nil) (fun _ _ _ _ _ => ee_fn G_is_box_bar m_is_box_bar k_is_box_bar b_is_box_bar hg hr (by rfl) (ea_cons (ee_var 0 (pv 0)) (ea_cons (ee_var 5 (pv 5)) (ea_nil))) (n_cons (n_cons n_nil))) nd rfl) (ea_nil))) (hN := nd) (hi := rfl) (hx := .inl rfl)) (el_fz 3 (el_one (es_ret (ee_if (eb_tru (ee_var 3 (pv 3))) (ee_fn G_bars_fault m_bars_fault k_bars_fault b_bars_fault hg hr (by rfl) (ea_cons (ee_var 0 (pv 0)) (ea_cons (ee_var 1 (pv 1)) (ea_cons (ee_ixA h64 (ee_var 2 (pv 2)) (ee_int)) (ea_nil)))) (n_cons (n_cons (n_cons n_nil)))) (ee_tup (ea_cons (ee_str) (ea_nil)))))))) (el_nil)) (el_fz 3 (el_cons (es_if (eb_w (ew_or (eb_cmp (op_oNe h64) (ee_ixA h64 (ee_var 2 (pv 2)) (ee_int)) (ee_str) (nomark _)) (ew_or (eb_cmp (op_oNe h64) (ee_callB call_fLen (by rfl) T.z_len (by decide +kernel) (ea_cons (ee_var 2 (pv 2)) (ea_nil))) (ee_int) (nomark _)) (ew_or (eb_not (eb_tru (ee_fn G_is_number m_is_number k_is_number b_is_number hg hr (by rfl) (ea_cons (ee_ixA h64 (ee_var 2 (pv 2)) (ee_int)) (ea_nil)) (n_cons n_nil)))) (ew_or1 (eb_not (eb_tru (ee_fn G_is_number m_is_number k_is_number b_is_number hg hr (by rfl) (ea_cons (ee_ixA h64 (ee_var 2 (pv 2)) (ee_int)) (ea_nil)) (n_cons n_nil))))))))) (el_one (es_ret (ee_tup (ea_cons (ee_str) (ea_nil))))) (el_nil)) (el_cons (es_if (eb_not (eb_chain3 (op_oLeA h70) (op_oLtA h70) (op_oLtA h70) (ee_int) (ee_ixA h64 (ee_var 2 (pv 2)) (ee_int)) (ee_ixA h64 (ee_var 2 (pv 2)) (ee_int)) (ee_var 1 (pv 1)))) (el_one (es_ret (ee_tup (ea_cons (ee_str) (ea_nil))))) (el_nil)) (el_cons (es_set (i := 4) (ee_fn G_box_row m_box_row k_box_row b_box_row hg hr (by rfl) (ea_cons (ee_var 0 (pv 0)) (ea_cons (ee_var 1 (pv 1)) (ea_nil))) (n_cons (n_cons n_nil))) (hN := nd) (hi := rfl) (hx := .inl rfl)) (el_fz 4 (el_one (es_ret (ee_if (eb_cmp (op_oEq h64) (ee_ixA h64 (ee_var 4 (pv 4)) (ee_ixA h64 (ee_var 2 (pv 2)) (ee_int))) (ee_ixA h64 (ee_var 4 (pv 4)) (ee_ixA h64 (ee_var 2 (pv 2)) (ee_int))) (nomark _)) (ee_tup (ea_cons (ee_str) (ea_nil))) (ee_non))))))))))
/-! _law_of -/
def N__law_of : List Str := ["source", "some"]
def d__law_of : SD := sRet (eBin oIxA (eVar 1) (eFn fPick (dCons (eVar 0) (dCons (eCall fLen (dCons (eVar 1) (dNil))) (dNil)))))
theorem sc__law_of : FnScope N__law_of ["source", "some"] (defScope (topS 13)) := ⟨rfl, rfl, rfl, by decide +kernel, rfl, by decide +kernel, by decide +kernel⟩
theorem fn__law_of {f : Addr} {fd : FuncData} (F : Fun K "_law_of" "_law_of" (topS 13) f fd) (T : Tx K mg) : FnG P w K mg base 2 f fd ["source", "some"] (spD P w K 2 (runF 2 d__law_of)) := by
  obtain ⟨f__law_pick, fd__law_pick, F__law_pick, b__law_pick, m__law_pick, k__law_pick⟩ := T.f__law_pick
  have G__law_pick := (fn__law_pick (P := P) (w := w) (base := base) F__law_pick T).mono (show 1 ≤ 1 by decide)
  refine fnD_of (k := 1) (N := N__law_of) F sc__law_of fun cdv A outer s H hg hr => ?_
  have nd := sc__law_of.nd
  have h64 : (A.deeper (PyProof.Rows.envOfC "_law_of" (defScope (topS 13)) s.heap.objs.size f cdv)).units + 64 < cLine := by have := hr.un; omega
  have h65 : (A.deeper (PyProof.Rows.envOfC "_law_of" (defScope (topS 13)) s.heap.objs.size f cdv)).units + 65 < cLine := by have := hr.un; omega
  have h70 : (A.deeper (PyProof.Rows.envOfC "_law_of" (defScope (topS 13)) s.heap.objs.size f cdv)).units + 70 < cLine := by have := hr.un; omega
  exact el_one (es_ret (ee_ixA h64 (ee_var 1 (pv 1)) (ee_fn G__law_pick m__law_pick k__law_pick b__law_pick hg hr (by rfl) (ea_cons (ee_var 0 (pv 0)) (ea_cons (ee_callB call_fLen (by rfl) T.z_len (by decide +kernel) (ea_cons (ee_var 1 (pv 1)) (ea_nil))) (ea_nil))) (n_cons (n_cons n_nil)))))
/-! _law_box -/
def N__law_box : List Str := ["source", "m", "most", "sides", "lap", "many", "side", "high"]
def d__law_box : SD := sSeq (sSet 3 (eLst (dNil))) (sSeq (sFor (iRan1 (dCons (eBin oAdd (eC (.int (1))) (eFn fPick (dCons (eVar 0) (dCons (eC (.int (4))) (dNil))))) (dNil))) (.n 4) (sSeq (sSet 5 (eC (.int (1)))) (sFz 5 (sSeq (sProd 3 5 6) (sFz 5 (sFz 6 (sSeq (sSet 7 (eCall fMin (dCons (eBin oDiv (eVar 2) (eVar 5)) (dCons (eBin oIxA (eLst (dCons (eVar 2) (dCons (eC (.int (14))) (dCons (eC (.int (8))) (dCons (eC (.int (6))) (dNil)))))) (eVar 4)) (dNil))))) (sFz 7 (sSeq (sSet 6 (eBin oAdd (eC (.int (1))) (eFn fPick (dCons (eVar 0) (dCons (eCall fMax (dCons (eC (.int (1))) (dCons (eVar 7) (dNil)))) (dNil)))))) (sFz 6 (sApp 3 (eIf (bT (eBin oEq (eFn fPick (dCons (eVar 0) (dCons (eC (.int (5))) (dNil)))) (eC (.int (0))))) (eCall fMax (dCons (eC (.int (1))) (dCons (eBin oSub (eVar 6) (eBin oMod (eCall fInt (dCons (eVar 6) (dNil))) (eVar 1))) (dNil)))) (eVar 6))))))))))))) (sFz 7 (sFz 5 (sFz 6 (sFz 3 (sRet (eCall fTuple (dCons (eVar 3) (dNil)))))))))
theorem sc__law_box : FnScope N__law_box ["source", "m", "most"] (defScope (topS 14)) := ⟨rfl, rfl, rfl, by decide +kernel, rfl, by decide +kernel, by decide +kernel⟩
theorem fn__law_box {f : Addr} {fd : FuncData} (F : Fun K "_law_box" "_law_box" (topS 14) f fd) (T : Tx K mg) : FnG P w K mg base 2 f fd ["source", "m", "most"] (spD P w K 3 (runF 8 d__law_box)) := by
  obtain ⟨f__law_pick, fd__law_pick, F__law_pick, b__law_pick, m__law_pick, k__law_pick⟩ := T.f__law_pick
  have G__law_pick := (fn__law_pick (P := P) (w := w) (base := base) F__law_pick T).mono (show 1 ≤ 1 by decide)
  refine fnD_of (k := 1) (N := N__law_box) F sc__law_box fun cdv A outer s H hg hr => ?_
  have nd := sc__law_box.nd
  have h64 : (A.deeper (PyProof.Rows.envOfC "_law_box" (defScope (topS 14)) s.heap.objs.size f cdv)).units + 64 < cLine := by have := hr.un; omega
  have h65 : (A.deeper (PyProof.Rows.envOfC "_law_box" (defScope (topS 14)) s.heap.objs.size f cdv)).units + 65 < cLine := by have := hr.un; omega
  have h70 : (A.deeper (PyProof.Rows.envOfC "_law_box" (defScope (topS 14)) s.heap.objs.size f cdv)).units + 70 < cLine := by have := hr.un; omega
  exact el_cons (es_set (i := 3) (ee_lst (ea_nil)) (hN := nd) (hi := rfl) (hx := .inl rfl)) (el_cons (es_for PassesOwn.never rfl (ei_ran1 (by rfl) T.z_range (ea_cons (ee_bin op_oAdd (ee_int) (ee_fn G__law_pick m__law_pick k__law_pick b__law_pick hg hr (by rfl) (ea_cons (ee_var 0 (pv 0)) (ea_cons (ee_int) (ea_nil))) (n_cons (n_cons n_nil)))) (ea_nil))) (eg_name (i := 4) nd rfl (.inl rfl)) (el_cons (es_set (i := 5) (ee_int) (hN := nd) (hi := rfl) (hx := .inl rfl)) (el_fz 5 (el_cons (es_prod rfl (pv 3) (pv 5) (pv 6) nd rfl rfl (.inl rfl) (.inl rfl) PassesOwn.never) (el_fz 5 (el_fz 6 (el_cons (es_set (i := 7) (ee_callB (call_fMin rfl) (by rfl) T.z_min (by decide +kernel) (ea_cons (ee_bin op_oDiv (ee_var 2 (pv 2)) (ee_var 5 (pv 5))) (ea_cons (ee_ixA h64 (ee_lst (ea_cons (ee_var 2 (pv 2)) (ea_cons (ee_int) (ea_cons (ee_int) (ea_cons (ee_int) (ea_nil)))))) (ee_var 4 (pv 4))) (ea_nil)))) (hN := nd) (hi := rfl) (hx := .inl rfl)) (el_fz 7 (el_cons (es_set (i := 6) (ee_bin op_oAdd (ee_int) (ee_fn G__law_pick m__law_pick k__law_pick b__law_pick hg hr (by rfl) (ea_cons (ee_var 0 (pv 0)) (ea_cons (ee_callB (call_fMax rfl) (by rfl) T.z_max (by decide +kernel) (ea_cons (ee_int) (ea_cons (ee_var 7 (pv 7)) (ea_nil)))) (ea_nil))) (n_cons (n_cons n_nil)))) (hN := nd) (hi := rfl) (hx := .inl rfl)) (el_fz 6 (el_one (es_app (pv 3) (ee_if (eb_cmp (op_oEq h64) (ee_fn G__law_pick m__law_pick k__law_pick b__law_pick hg hr (by rfl) (ea_cons (ee_var 0 (pv 0)) (ea_cons (ee_int) (ea_nil))) (n_cons (n_cons n_nil))) (ee_int) (nomark _)) (ee_callB (call_fMax rfl) (by rfl) T.z_max (by decide +kernel) (ea_cons (ee_int) (ea_cons (ee_bin op_oSub (ee_var 6 (pv 6)) (ee_bin op_oMod (ee_callTy call_fInt (by rfl) T.z_int (by decide +kernel) (ea_cons (ee_var 6 (pv 6)) (ea_nil))) (ee_var 1 (pv 1)))) (ea_nil)))) (ee_var 6 (pv 6))))))))))))))) (el_fz 7 (el_fz 5 (el_fz 6 (el_fz 3 (el_one (es_ret (ee_callTy call_fTuple (by rfl) T.z_tuple (by decide +kernel) (ea_cons (ee_var 3 (pv 3)) (ea_nil))))))))))
/-! _law_row -/
def N__law_row : List Str := ["floor", "m", "c", "cell"]
def d__law_row : SD := sRet (eCall fTuple (dCons (eLc [2] (iRan1 (dCons (eVar 1) (dNil))) (.n 2) (bYes) (eCall fLen (dCons (eLc [3] (iSeq Tag.rd (eVar 0)) (.n 3) (bT (eBin oEq (eBin oMod (eCall fInt (dCons (eCall fSum (dCons (eVar 3) (dNil))) (dNil))) (eVar 1)) (eVar 2))) (eVar 3)) (dNil)))) (dNil)))
theorem sc__law_row : FnScope N__law_row ["floor", "m"] (defScope (topS 15)) := ⟨rfl, rfl, rfl, by decide +kernel, rfl, by decide +kernel, by decide +kernel⟩
theorem fn__law_row {f : Addr} {fd : FuncData} (F : Fun K "_law_row" "_law_row" (topS 15) f fd) (T : Tx K mg) : FnG P w K mg base 1 f fd ["floor", "m"] (spD P w K 2 (runF 4 d__law_row)) := by
  refine fnD_of (k := 0) (N := N__law_row) F sc__law_row fun cdv A outer s H hg hr => ?_
  have nd := sc__law_row.nd
  have h64 : (A.deeper (PyProof.Rows.envOfC "_law_row" (defScope (topS 15)) s.heap.objs.size f cdv)).units + 64 < cLine := by have := hr.un; omega
  have h65 : (A.deeper (PyProof.Rows.envOfC "_law_row" (defScope (topS 15)) s.heap.objs.size f cdv)).units + 65 < cLine := by have := hr.un; omega
  have h70 : (A.deeper (PyProof.Rows.envOfC "_law_row" (defScope (topS 15)) s.heap.objs.size f cdv)).units + 70 < cLine := by have := hr.un; omega
  exact el_one (es_ret (ee_callTy call_fTuple (by rfl) T.z_tuple (by decide +kernel) (ea_cons (ee_lc (own := [("c", 2)]) (blkOk_by (N := N__law_row) (sc := defScope (topS 15)) (by decide +kernel)) (eic_ran1 (by rfl) T.z_range (ea_cons (ee_var 1 (pv 1)) (ea_nil))) (fun _ _ _ _ _ => eg_name (i := 2) nd rfl (.inr rfl)) (fun _ _ _ _ _ => ets_nil) (fun _ _ _ _ _ => ee_callB call_fLen (by rfl) T.z_len (by decide +kernel) (ea_cons (ee_lc (own := [("cell", 3)]) (blkOk_by (N := N__law_row) (sc := ({ kind := .function, names := [(".0", .local), ("c", .cell), ("len", .globalImplicit), ("floor", .cell), ("m", .cell)], isGenerator := false, isCoroutine := false, more := [] } : Scope)) (by decide +kernel)) (eic_seq (ee_var 0 (pv 0))) (fun _ _ _ _ _ => eg_name (i := 3) nd rfl (.inl rfl)) (fun _ _ _ _ _ => ets_one (eb_cmp (op_oEq h64) (ee_bin op_oMod (ee_callTy call_fInt (by rfl) T.z_int (by decide +kernel) (ea_cons (ee_callB (call_fSum rfl) (by rfl) T.z_sum (by decide +kernel) (ea_cons (ee_var 3 (pv 3)) (ea_nil))) (ea_nil))) (ee_var 1 (pv 1))) (ee_var 2 (pv 2)) (nomark _))) (fun _ _ _ _ _ => ee_var 3 (pv 3)) nd rfl) (ea_nil))) nd rfl) (ea_nil))))
/-! _law_is_int -/
def N__law_is_int : List Str := ["value"]
def d__law_is_int : SD := sRet (eAnd (eIsi "int" (eVar 0)) (eNot (eIsi "bool" (eVar 0))))
theorem sc__law_is_int : FnScope N__law_is_int ["value"] (defScope (topS 16)) := ⟨rfl, rfl, rfl, by decide +kernel, rfl, by decide +kernel, by decide +kernel⟩
theorem fn__law_is_int {f : Addr} {fd : FuncData} (F : Fun K "_law_is_int" "_law_is_int" (topS 16) f fd) (T : Tx K mg) : FnG P w K mg base 1 f fd ["value"] (spD P w K 1 (runF 1 d__law_is_int)) := by
  refine fnD_of (k := 0) (N := N__law_is_int) F sc__law_is_int fun cdv A outer s H hg hr => ?_
  have nd := sc__law_is_int.nd
  have h64 : (A.deeper (PyProof.Rows.envOfC "_law_is_int" (defScope (topS 16)) s.heap.objs.size f cdv)).units + 64 < cLine := by have := hr.un; omega
  have h65 : (A.deeper (PyProof.Rows.envOfC "_law_is_int" (defScope (topS 16)) s.heap.objs.size f cdv)).units + 65 < cLine := by have := hr.un; omega
  have h70 : (A.deeper (PyProof.Rows.envOfC "_law_is_int" (defScope (topS 16)) s.heap.objs.size f cdv)).units + 70 < cLine := by have := hr.un; omega
  exact el_one (es_ret (ee_and (ee_isi (by rfl) T.z_isinstance (ee_var 0 (pv 0)) (by rfl) T.z_int (by decide +kernel)) (ee_one (ee_not (ee_isi (by rfl) T.z_isinstance (ee_var 0 (pv 0)) (by rfl) T.z_bool (by decide +kernel))))))
/-! _law_is_cell -/
def N__law_is_cell : List Str := ["value", "size", "one"]
def d__law_is_cell : SD := sRet (eAnd (eIsi "tuple" (eVar 0)) (eAnd (eBin oEq (eCall fLen (dCons (eVar 0) (dNil))) (eVar 1)) (eBin oEq (eLc [2] (iSeq Tag.rd (eVar 0)) (.n 2) (bNot (bTru (eFn (runF 1 d__law_is_int) (dCons (eVar 2) (dNil))))) (eC (.int (1)))) (eLst (dNil)))))
theorem sc__law_is_cell : FnScope N__law_is_cell ["value", "size"] (defScope (topS 17)) := ⟨rfl, rfl, rfl, by decide +kernel, rfl, by decide +kernel, by decide +kernel⟩
theorem fn__law_is_cell {f : Addr} {fd : FuncData} (F : Fun K "_law_is_cell" "_law_is_cell" (topS 17) f fd) (T : Tx K mg) : FnG P w K mg base 2 f fd ["value", "size"] (spD P w K 2 (runF 3 d__law_is_cell)) := by
  obtain ⟨f__law_is_int, fd__law_is_int, F__law_is_int, b__law_is_int, m__law_is_int, k__law_is_int⟩ := T.f__law_is_int
  have G__law_is_int := (fn__law_is_int (P := P) (w := w) (base := base) F__law_is_int T).mono (show 1 ≤ 1 by decide)
  refine fnD_of (k := 1) (N := N__law_is_cell) F sc__law_is_cell fun cdv A outer s H hg hr => ?_
  have nd := sc__law_is_cell.nd
  have h64 : (A.deeper (PyProof.Rows.envOfC "_law_is_cell" (defScope (topS 17)) s.heap.objs.size f cdv)).units + 64 < cLine := by have := hr.un; omega
  have h65 : (A.deeper (PyProof.Rows.envOfC "_law_is_cell" (defScope (topS 17)) s.heap.objs.size f cdv)).units + 65 < cLine := by have := hr.un; omega
  have h70 : (A.deeper (PyProof.Rows.envOfC "_law_is_cell" (defScope (topS 17)) s.heap.objs.size f cdv)).units + 70 < cLine := by have := hr.un; omega
  exact el_one (es_ret (ee_and (ee_isi (by rfl) T.z_isinstance (ee_var 0 (pv 0)) (by rfl) T.z_tuple (by decide +kernel)) (ee_and (ee_cmp (op_oEq h64) (ee_callB call_fLen (by rfl) T.z_len (by decide +kernel) (ea_cons (ee_var 0 (pv 0)) (ea_nil))) (ee_var 1 (pv 1)) (nomark _)) (ee_one (ee_cmp (op_oEq h64) (ee_lc (own := [("one", 2)]) (blkOk_by (N := N__law_is_cell) (sc := defScope (topS 17)) (by decide +kernel)) (eic_seq (ee_var 0 (pv 0))) (fun _ _ _ _ _ => eg_name (i := 2) nd rfl (.inl rfl)) (fun _ _ _ _ _ => ets_one (eb_not (eb_tru (ee_fn G__law_is_int m__law_is_int k__law_is_int b__law_is_int hg hr (by rfl) (ea_cons (ee_var 2 (pv 2)) (ea_nil)) (n_cons n_nil))))) (fun _ _ _ _ _ => ee_int) nd rfl) (ee_lst (ea_nil)) (nomark _))))))
/-! _law_box_cells -/
def N__law_box_cells : List Str := ["box", "found", "side", "late", "cell", "k"]
def d__law_box_cells : SD := sSeq (sSet 1 (eLst (dCons (eTup (dNil)) (dNil)))) (sFz 1 (sSeq (sFor (iSeq Tag.cln (eVar 0)) (.n 2) (sSeq (sSet 3 (eLst (dNil))) (sFz 3 (sSeq (sFor (iSeq Tag.cln (eVar 1)) (.n 4) (sSet 3 (eBin oAdd (eVar 3) (eLc [5] (iRan1 (dCons (eVar 2) (dNil))) (.n 5) (bYes) (eBin oAdd (eVar 4) (eTup (dCons (eVar 5) (dNil)))))))) (sFz 3 (sSet 1 (eVar 3))))))) (sFz 1 (sFz 3 (sRet (eVar 1))))))
theorem sc__law_box_cells : FnScope N__law_box_cells ["box"] (defScope (topS 18)) := ⟨rfl, rfl, rfl, by decide +kernel, rfl, by decide +kernel, by decide +kernel⟩
theorem fn__law_box_cells {f : Addr} {fd : FuncData} (F : Fun K "_law_box_cells" "_law_box_cells" (topS 18) f fd) (T : Tx K mg) : FnG P w K mg base 1 f fd ["box"] (spD P w K 1 (runF 6 d__law_box_cells)) := by
  refine fnD_of (k := 0) (N := N__law_box_cells) F sc__law_box_cells fun cdv A outer s H hg hr => ?_
  have nd := sc__law_box_cells.nd
  have h64 : (A.deeper (PyProof.Rows.envOfC "_law_box_cells" (defScope (topS 18)) s.heap.objs.size f cdv)).units + 64 < cLine := by have := hr.un; omega
  have h65 : (A.deeper (PyProof.Rows.envOfC "_law_box_cells" (defScope (topS 18)) s.heap.objs.size f cdv)).units + 65 < cLine := by have := hr.un; omega
  have h70 : (A.deeper (PyProof.Rows.envOfC "_law_box_cells" (defScope (topS 18)) s.heap.objs.size f cdv)).units + 70 < cLine := by have := hr.un; omega
  exact el_cons (es_set (i := 1) (ee_lst (ea_cons (ee_tup (ea_nil)) (ea_nil))) (hN := nd) (hi := rfl) (hx := .inl rfl)) (el_fz 1 (el_cons (es_for PassesOwn.never rfl (ei_seq (ee_var 0 (pv 0))) (eg_name (i := 2) nd rfl (.inl rfl)) (el_cons (es_set (i := 3) (ee_lst (ea_nil)) (hN := nd) (hi := rfl) (hx := .inl rfl)) (el_fz 3 (el_cons (es_for PassesOwn.never rfl (ei_seq (ee_var 1 (pv 1))) (eg_name (i := 4) nd rfl (.inr rfl)) (el_one (es_set (i := 3) (ee_bin op_oAdd (ee_var 3 (pv 3)) (ee_lc (own := [("k", 5)]) (blkOk_by (N := N__law_box_cells) (sc := defScope (topS 18)) (by decide +kernel)) (eic_ran1 (by rfl) T.z_range (ea_cons (ee_var 2 (pv 2)) (ea_nil))) (fun _ _ _ _ _ => eg_name (i := 5) nd rfl (.inl rfl)) (fun _ _ _ _ _ => ets_nil) (fun _ _ _ _ _ => ee_bin op_oAdd (ee_var 4 (pv 4)) (ee_tup (ea_cons (ee_var 5 (pv 5)) (ea_nil)))) nd rfl)) (hN := nd) (hi := rfl) (hx := .inl rfl)))) (el_fz 3 (el_one (es_set (i := 1) (ee_var 3 (pv 3)) (hN := nd) (hi := rfl) (hx := .inl rfl)))))))) (el_fz 1 (el_fz 3 (el_one (es_ret (ee_var 1 (pv 1))))))))
/-! _law_box_bar -/
def N__law_box_bar : List Str := ["bar", "m", "cell", "axis", "k"]
def d__law_box_bar : SD := sSeq (sTup (.t [.n 2, .n 3]) (eVar 0)) (sRet (eLc [4] (iRan1 (dCons (eVar 1) (dNil))) (.n 4) (bYes) (eBin oAdd (eBin oAdd (eSl (eVar 2) (pNone) (pSome (eVar 3))) (eTup (dCons (eBin oAdd (eBin oIxA (eVar 2) (eVar 3)) (eVar 4)) (dNil)))) (eSl (eVar 2) (pSome (eBin oAdd (eVar 3) (eC (.int (1))))) (pNone)))))
theorem sc__law_box_bar : FnScope N__law_box_bar ["bar", "m"] (defScope (topS 19)) := ⟨rfl, rfl, rfl, by decide +kernel, rfl, by decide +kernel, by decide +kernel⟩
theorem fn__law_box_bar {f : Addr} {fd : FuncData} (F : Fun K "_law_box_bar" "_law_box_bar" (topS 19) f fd) (T : Tx K mg) : FnG P w K mg base 1 f fd ["bar", "m"] (spD P w K 2 (runF 5 d__law_box_bar)) := by
  refine fnD_of (k := 0) (N := N__law_box_bar) F sc__law_box_bar fun cdv A outer s H hg hr => ?_
  have nd := sc__law_box_bar.nd
  have h64 : (A.deeper (PyProof.Rows.envOfC "_law_box_bar" (defScope (topS 19)) s.heap.objs.size f cdv)).units + 64 < cLine := by have := hr.un; omega
  have h65 : (A.deeper (PyProof.Rows.envOfC "_law_box_bar" (defScope (topS 19)) s.heap.objs.size f cdv)).units + 65 < cLine := by have := hr.un; omega
  have h70 : (A.deeper (PyProof.Rows.envOfC "_law_box_bar" (defScope (topS 19)) s.heap.objs.size f cdv)).units + 70 < cLine := by have := hr.un; omega
  exact el_cons (es_tup (ee_var 0 (pv 0)) (eg_tup rfl (egs_cons (eg_name (i := 2) nd rfl (.inr rfl)) (egs_cons (eg_name (i := 3) nd rfl (.inr rfl)) (egs_nil))))) (el_one (es_ret (ee_lc (own := [("k", 4)]) (blkOk_by (N := N__law_box_bar) (sc := defScope (topS 19)) (by decide +kernel)) (eic_ran1 (by rfl) T.z_range (ea_cons (ee_var 1 (pv 1)) (ea_nil))) (fun _ _ _ _ _ => eg_name (i := 4) nd rfl (.inl rfl)) (fun _ _ _ _ _ => ets_nil) (fun _ _ _ _ _ => ee_bin op_oAdd (ee_bin op_oAdd (ee_sl (ee_var 2 (pv 2)) (eo_none) (eo_some (ee_var 3 (pv 3)))) (ee_tup (ea_cons (ee_bin op_oAdd (ee_ixA h64 (ee_var 2 (pv 2)) (ee_var 3 (pv 3))) (ee_var 4 (pv 4))) (ea_nil)))) (ee_sl (ee_var 2 (pv 2)) (eo_some (ee_bin op_oAdd (ee_var 3 (pv 3)) (ee_int))) (eo_none))) nd rfl)))
/-! _law_bars_fault -/
def N__law_bars_fault : List Str := ["box", "m", "bars", "cell", "known", "met", "i", "bar", "lacks"]
def d__law_bars_fault : SD := sSeq (sPar 4 5 (eCall fDict (dCons (eLc [3] (iSeq Tag.rd (eFn (runF 6 d__law_box_cells) (dCons (eVar 0) (dNil)))) (.n 3) (bYes) (eTup (dCons (eVar 3) (dCons (eC (.bool true)) (dNil))))) (dNil))) (eDct0)) (sFz 4 (sSeq (sFor (iRan2 (dCons (eC (.int (1))) (dCons (eCall fLen (dCons (eVar 2) (dNil))) (dNil)))) (.n 6) (sIf (bNot (bT (eBin oLtA (eBin oIxA (eVar 2) (eBin oSub (eVar 6) (eC (.int (1))))) (eBin oIxA (eVar 2) (eVar 6))))) (sRet (eTup (dCons (eC (.str "order")) (dCons (eVar 6) (dNil))))) (sNil))) (sSeq (sFor (iEn Tag.cln (dCons (eVar 2) (dNil))) (.t [.n 6, .n 7]) (sIf (bT (eBin oNe (eLc [3] (iSeq Tag.rd (eFn (runF 5 d__law_box_bar) (dCons (eVar 7) (dCons (eVar 1) (dNil))))) (.n 3) (bT (eBin oNotInA (eVar 3) (eVar 4))) (eVar 3)) (eLst (dNil)))) (sRet (eTup (dCons (eC (.str "out")) (dCons (eVar 6) (dNil))))) (sNil))) (sSeq (sFor (iEn Tag.cln (dCons (eVar 2) (dNil))) (.t [.n 6, .n 7]) (sSeq (sIf (bT (eBin oNe (eLc [3] (iSeq Tag.rd (eFn (runF 5 d__law_box_bar) (dCons (eVar 7) (dCons (eVar 1) (dNil))))) (.n 3) (bT (eBin oInA (eVar 3) (eVar 5))) (eVar 3)) (eLst (dNil)))) (sRet (eTup (dCons (eC (.str "twice")) (dCons (eVar 6) (dNil))))) (sNil)) (sFor (iSeq Tag.cln (eFn (runF 5 d__law_box_bar) (dCons (eVar 7) (dCons (eVar 1) (dNil))))) (.n 3) (sSetA 5 (eVar 3) (eC (.bool true)))))) (sFz 5 (sSeq (sSet 8 (eLc [3] (iSeq Tag.rd (eFn (runF 6 d__law_box_cells) (dCons (eVar 0) (dNil)))) (.n 3) (bT (eBin oNotInA (eVar 3) (eVar 5))) (eVar 3))) (sFz 8 (sRet (eIf (bT (eBin oNe (eVar 8) (eLst (dNil)))) (eTup (dCons (eC (.str "lacks")) (dCons (eBin oIxA (eVar 8) (eC (.int (0)))) (dNil)))) (eC .none))))))))))
theorem sc__law_bars_fault : FnScope N__law_bars_fault ["box", "m", "bars"] (defScope (topS 20)) := ⟨rfl, rfl, rfl, by decide +kernel, rfl, by decide +kernel, by decide +kernel⟩
theorem fn__law_bars_fault {f : Addr} {fd : FuncData} (F : Fun K "_law_bars_fault" "_law_bars_fault" (topS 20) f fd) (T : Tx K mg) : FnG P w K mg base 2 f fd ["box", "m", "bars"] (spD P w K 3 (runF 9 d__law_bars_fault)) := by
  obtain ⟨f__law_box_bar, fd__law_box_bar, F__law_box_bar, b__law_box_bar, m__law_box_bar, k__law_box_bar⟩ := T.f__law_box_bar
  have G__law_box_bar := (fn__law_box_bar (P := P) (w := w) (base := base) F__law_box_bar T).mono (show 1 ≤ 1 by decide)
  obtain ⟨f__law_box_cells, fd__law_box_cells, F__law_box_cells, b__law_box_cells, m__law_box_cells, k__law_box_cells⟩ := T.f__law_box_cells
  have G__law_box_cells := (fn__law_box_cells (P := P) (w := w) (base := base) F__law_box_cells T).mono (show 1 ≤ 1 by decide)
  refine fnD_of (k := 1) (N := N__law_bars_fault) F sc__law_bars_fault fun cdv A outer s H hg hr => ?_
  have nd := sc__law_bars_fault.nd
  have h64 : (A.deeper (PyProof.Rows.envOfC "_law_bars_fault" (defScope (topS 20)) s.heap.objs.size f cdv)).units + 64 < cLine := by have := hr.un; omega
  have h65 : (A.deeper (PyProof.Rows.envOfC "_law_bars_fault" (defScope (topS 20)) s.heap.objs.size f cdv)).units + 65 < cLine := by have := hr.un; omega
  have h70 : (A.deeper (PyProof.Rows.envOfC "_law_bars_fault" (defScope (topS 20)) s.heap.objs.size f cdv)).units + 70 < cLine := by have := hr.un; omega
  exact el_cons (es_parT (i := 4) (j := 5) (.inr rfl) (.inr rfl) (ee_callTy (call_fDict rfl h64) (by rfl) T.z_dict (by decide +kernel) (ea_cons (ee_lc (own := [("cell", 3)]) (blkOk_by (N := N__law_bars_fault) (sc := defScope (topS 20)) (by decide +kernel)) (eic_seq (ee_fn G__law_box_cells m__law_box_cells k__law_box_cells b__law_box_cells hg hr (by rfl) (ea_cons (ee_var 0 (pv 0)) (ea_nil)) (n_cons n_nil))) (fun _ _ _ _ _ => eg_name (i := 3) nd rfl (.inl rfl)) (fun _ _ _ _ _ => ets_nil) (fun _ _ _ _ _ => ee_tup (ea_cons (ee_var 3 (pv 3)) (ea_cons (ee_bl) (ea_nil)))) nd rfl) (ea_nil))) (ee_dct0) rfl nd rfl rfl) (el_fz 4 (el_cons (es_for PassesOwn.never rfl (ei_ran2 (by rfl) T.z_range (ea_cons (ee_int) (ea_cons (ee_callB call_fLen (by rfl) T.z_len (by decide +kernel) (ea_cons (ee_var 2 (pv 2)) (ea_nil))) (ea_nil)))) (eg_name (i := 6) nd rfl (.inl rfl)) (el_one (es_if (eb_not (eb_cmp (op_oLtA h70) (ee_ixA h64 (ee_var 2 (pv 2)) (ee_bin op_oSub (ee_var 6 (pv 6)) (ee_int))) (ee_ixA h64 (ee_var 2 (pv 2)) (ee_var 6 (pv 6))) (nomark _))) (el_one (es_ret (ee_tup (ea_cons (ee_str) (ea_cons (ee_var 6 (pv 6)) (ea_nil)))))) (el_nil)))) (el_cons (es_for PassesOwn.never rfl (ei_enum (by rfl) T.z_enumerate (ea_cons (ee_var 2 (pv 2)) (ea_nil))) (eg_tup rfl (egs_cons (eg_name (i := 6) nd rfl (.inl rfl)) (egs_cons (eg_name (i := 7) nd rfl (.inl rfl)) (egs_nil)))) (el_one (es_if (eb_cmp (op_oNe h64) (ee_lc (own := [("cell", 3)]) (blkOk_by (N := N__law_bars_fault) (sc := defScope (topS 20)) (by decide +kernel)) (eic_seq (ee_fn G__law_box_bar m__law_box_bar k__law_box_bar b__law_box_bar hg hr (by rfl) (ea_cons (ee_var 7 (pv 7)) (ea_cons (ee_var 1 (pv 1)) (ea_nil))) (n_cons (n_cons n_nil)))) (fun _ _ _ _ _ => eg_name (i := 3) nd rfl (.inl rfl)) (fun _ _ _ _ _ => ets_one (eb_cmp (op_oNotInA h65) (ee_var 3 (pv 3)) (ee_var 4 (pv 4)) (by rfl))) (fun _ _ _ _ _ => ee_var 3 (pv 3)) nd rfl) (ee_lst (ea_nil)) (nomark _)) (el_one (es_ret (ee_tup (ea_cons (ee_str) (ea_cons (ee_var 6 (pv 6)) (ea_nil)))))) (el_nil)))) (el_cons (es_for PassesOwn.never rfl (ei_enum (by rfl) T.z_enumerate (ea_cons (ee_var 2 (pv 2)) (ea_nil))) (eg_tup rfl (egs_cons (eg_name (i := 6) nd rfl (.inl rfl)) (egs_cons (eg_name (i := 7) nd rfl (.inl rfl)) (egs_nil)))) (el_cons (es_if (eb_cmp (op_oNe h64) (ee_lc (own := [("cell", 3)]) (blkOk_by (N := N__law_bars_fault) (sc := defScope (topS 20)) (by decide +kernel)) (eic_seq (ee_fn G__law_box_bar m__law_box_bar k__law_box_bar b__law_box_bar hg hr (by rfl) (ea_cons (ee_var 7 (pv 7)) (ea_cons (ee_var 1 (pv 1)) (ea_nil))) (n_cons (n_cons n_nil)))) (fun _ _ _ _ _ => eg_name (i := 3) nd rfl (.inl rfl)) (fun _ _ _ _ _ => ets_one (eb_cmp (op_oInA h65) (ee_var 3 (pv 3)) (ee_var 5 (pv 5)) (by rfl))) (fun _ _ _ _ _ => ee_var 3 (pv 3)) nd rfl) (ee_lst (ea_nil)) (nomark _)) (el_one (es_ret (ee_tup (ea_cons (ee_str) (ea_cons (ee_var 6 (pv 6)) (ea_nil)))))) (el_nil)) (el_one (es_for PassesOwn.never rfl (ei_seq (ee_fn G__law_box_bar m__law_box_bar k__law_box_bar b__law_box_bar hg hr (by rfl) (ea_cons (ee_var 7 (pv 7)) (ea_cons (ee_var 1 (pv 1)) (ea_nil))) (n_cons (n_cons n_nil)))) (eg_name (i := 3) nd rfl (.inl rfl)) (el_one (es_setA h64 (pv 5) (ee_var 3 (pv 3)) (ee_bl))))))) (el_fz 5 (el_cons (es_setLc (i := 8) (own := [("cell", 3)]) (blkOk_by (N := N__law_bars_fault) (sc := defScope (topS 20)) (by decide +kernel)) (eic_seq (ee_fn G__law_box_cells m__law_box_cells k__law_box_cells b__law_box_cells hg hr (by rfl) (ea_cons (ee_var 0 (pv 0)) (ea_nil)) (n_cons n_nil))) (fun _ _ _ _ _ => eg_name (i := 3) nd rfl (.inl rfl)) (fun _ _ _ _ _ => ets_one (eb_cmp (op_oNotInA h65) (ee_var 3 (pv 3)) (ee_var 5 (pv 5)) (by rfl))) (fun _ _ _ _ _ => ee_var 3 (pv 3)) (sw_true rfl rfl rfl (by decide +kernel)) rfl nd rfl rfl) (el_fz 8 (el_one (es_ret (ee_if (eb_cmp (op_oNe h64) (ee_var 8 (pv 8)) (ee_lst (ea_nil)) (nomark _)) (ee_tup (ea_cons (ee_str) (ea_cons (ee_ixA h64 (ee_var 8 (pv 8)) (ee_int)) (ea_nil)))) (ee_non)))))))))))
/-! _law_is_box_bar -/
def N__law_is_box_bar : List Str := ["box", "value", "k", "side"]
def d__law_is_box_bar : SD := sSeq (sIf (bOr (bNot (bTru (eIsi "tuple" (eVar 1)))) (bOr (bT (eBin oNe (eCall fLen (dCons (eVar 1) (dNil))) (eC (.int (2))))) (bNot (bTru (eFn (runF 3 d__law_is_cell) (dCons (eBin oIxA (eVar 1) (eC (.int (0)))) (dCons (eCall fLen (dCons (eVar 0) (dNil))) (dNil)))))))) (sRet (eC (.bool false))) (sNil)) (sSeq (sIf (bT (eBin oNe (eLc [2, 3] (iZp Tag.rd (dCons (eBin oIxA (eVar 1) (eC (.int (0)))) (dCons (eVar 0) (dNil)))) (.t [.n 2, .n 3]) (bNot (bT (eChain oLeA oLtA (eC (.int (0))) (eVar 2) (eVar 3)))) (eC (.int (1)))) (eLst (dNil)))) (sRet (eC (.bool false))) (sNil)) (sRet (eAnd (eFn (runF 1 d__law_is_int) (dCons (eBin oIxA (eVar 1) (eC (.int (1)))) (dNil))) (eChain oLeA oLtA (eC (.int (0))) (eBin oIxA (eVar 1) (eC (.int (1)))) (eCall fLen (dCons (eVar 0) (dNil)))))))
theorem sc__law_is_box_bar : FnScope N__law_is_box_bar ["box", "value"] (defScope (topS 21)) := ⟨rfl, rfl, rfl, by decide +kernel, rfl, by decide +kernel, by decide +kernel⟩
theorem fn__law_is_box_bar {f : Addr} {fd : FuncData} (F : Fun K "_law_is_box_bar" "_law_is_box_bar" (topS 21) f fd) (T : Tx K mg) : FnG P w K mg base 3 f fd ["box", "value"] (spD P w K 2 (runF 4 d__law_is_box_bar)) := by
  obtain ⟨f__law_is_cell, fd__law_is_cell, F__law_is_cell, b__law_is_cell, m__law_is_cell, k__law_is_cell⟩ := T.f__law_is_cell
  have G__law_is_cell := (fn__law_is_cell (P := P) (w := w) (base := base) F__law_is_cell T).mono (show 2 ≤ 2 by decide)
  obtain ⟨f__law_is_int, fd__law_is_int, F__law_is_int, b__law_is_int, m__law_is_int, k__law_is_int⟩ := T.f__law_is_int
  have G__law_is_int := (fn__law_is_int (P := P) (w := w) (base := base) F__law_is_int T).mono (show 1 ≤ 2 by decide)
  refine fnD_of (k := 2) (N := N__law_is_box_bar) F sc__law_is_box_bar fun cdv A outer s H hg hr => ?_
  have nd := sc__law_is_box_bar.nd
  have h64 : (A.deeper (PyProof.Rows.envOfC "_law_is_box_bar" (defScope (topS 21)) s.heap.objs.size f cdv)).units + 64 < cLine := by have := hr.un; omega
  have h65 : (A.deeper (PyProof.Rows.envOfC "_law_is_box_bar" (defScope (topS 21)) s.heap.objs.size f cdv)).units + 65 < cLine := by have := hr.un; omega
  have h70 : (A.deeper (PyProof.Rows.envOfC "_law_is_box_bar" (defScope (topS 21)) s.heap.objs.size f cdv)).units + 70 < cLine := by have := hr.un; omega
  exact el_cons (es_if (eb_w (ew_or (eb_not (eb_tru (ee_isi (by rfl) T.z_isinstance (ee_var 1 (pv 1)) (by rfl) T.z_tuple (by decide +kernel)))) (ew_or (eb_cmp (op_oNe h64) (ee_callB call_fLen (by rfl) T.z_len (by decide +kernel) (ea_cons (ee_var 1 (pv 1)) (ea_nil))) (ee_int) (nomark _)) (ew_or1 (eb_not (eb_tru (ee_fn G__law_is_cell m__law_is_cell k__law_is_cell b__law_is_cell hg hr (by rfl) (ea_cons (ee_ixA h64 (ee_var 1 (pv 1)) (ee_int)) (ea_cons (ee_callB call_fLen (by rfl) T.z_len (by decide +kernel) (ea_cons (ee_var 0 (pv 0)) (ea_nil))) (ea_nil))) (n_cons (n_cons n_nil))))))))) (el_one (es_ret (ee_bl))) (el_nil)) (el_cons (es_if (eb_cmp (op_oNe h64) (ee_lc (own := [("k", 2), ("side", 3)]) (blkOk_by (N := N__law_is_box_bar) (sc := defScope (topS 21)) (by decide +kernel)) (eic_zip (by rfl) T.z_zip (ea_cons (ee_ixA h64 (ee_var 1 (pv 1)) (ee_int)) (ea_cons (ee_var 0 (pv 0)) (ea_nil)))) (fun _ _ _ _ _ => eg_tup rfl (egs_cons (eg_name (i := 2) nd rfl (.inl rfl)) (egs_cons (eg_name (i := 3) nd rfl (.inl rfl)) (egs_nil)))) (fun _ _ _ _ _ => ets_one (eb_not (eb_chain (op_oLeA h70) (op_oLtA h70) (ee_int) (ee_var 2 (pv 2)) (ee_var 3 (pv 3))))) (fun _ _ _ _ _ => ee_int) nd rfl) (ee_lst (ea_nil)) (nomark _)) (el_one (es_ret (ee_bl))) (el_nil)) (el_one (es_ret (ee_and (ee_fn G__law_is_int m__law_is_int k__law_is_int b__law_is_int hg hr (by rfl) (ea_cons (ee_ixA h64 (ee_var 1 (pv 1)) (ee_int)) (ea_nil)) (n_cons n_nil)) (ee_one (ee_chain (op_oLeA h70) (op_oLtA h70) (ee_int) (ee_ixA h64 (ee_var 1 (pv 1)) (ee_int)) (ee_callB call_fLen (by rfl) T.z_len (by decide +kernel) (ea_cons (ee_var 0 (pv 0)) (ea_nil)))))))))
/-! _law_box_fault -/
def N__law_box_fault : List Str := ["box", "m", "value", "row", "bar"]
def d__law_box_fault : SD := sSeq (sIf (bOr (bNot (bTru (eIsi "tuple" (eVar 2)))) (bOr (bT (eBin oNotInA (eCall fLen (dCons (eVar 2) (dNil))) (eTup (dCons (eC (.int (2))) (dCons (eC (.int (3))) (dNil)))))) (bNot (bTru (eIsi "str" (eBin oIxA (eVar 2) (eC (.int (0))))))))) (sRet (eTup (dCons (eC (.str "form")) (dNil)))) (sNil)) (sSeq (sIf (bT (eBin oEq (eCall fLen (dCons (eVar 2) (dNil))) (eC (.int (2))))) (sSeq (sIf (bOr (bT (eBin oNe (eBin oIxA (eVar 2) (eC (.int (0)))) (eC (.str "laying")))) (bNot (bTru (eIsi "tuple" (eBin oIxA (eVar 2) (eC (.int (1)))))))) (sRet (eTup (dCons (eC (.str "form")) (dNil)))) (sNil)) (sSeq (sIf (bT (eBin oNe (eLc [4] (iSeq Tag.rd (eBin oIxA (eVar 2) (eC (.int (1))))) (.n 4) (bNot (bTru (eFn (runF 4 d__law_is_box_bar) (dCons (eVar 0) (dCons (eVar 4) (dNil)))))) (eC (.int (1)))) (eLst (dNil)))) (sRet (eTup (dCons (eC (.str "form")) (dNil)))) (sNil)) (sRet (eFn (runF 9 d__law_bars_fault) (dCons (eVar 0) (dCons (eVar 1) (dCons (eBin oIxA (eVar 2) (eC (.int (1)))) (dNil)))))))) (sNil)) (sSeq (sIf (bOr (bT (eBin oNe (eBin oIxA (eVar 2) (eC (.int (0)))) (eC (.str "colours")))) (bOr (bNot (bTru (eFn (runF 1 d__law_is_int) (dCons (eBin oIxA (eVar 2) (eC (.int (1)))) (dNil))))) (bNot (bTru (eFn (runF 1 d__law_is_int) (dCons (eBin oIxA (eVar 2) (eC (.int (2)))) (dNil))))))) (sRet (eTup (dCons (eC (.str "form")) (dNil)))) (sNil)) (sSeq (sIf (bNot (bChain3 oLeA oLtA oLtA (eC (.int (0))) (eBin oIxA (eVar 2) (eC (.int (1)))) (eBin oIxA (eVar 2) (eC (.int (2)))) (eVar 1))) (sRet (eTup (dCons (eC (.str "range")) (dNil)))) (sNil)) (sSeq (sSet 3 (eFn (runF 4 d__law_row) (dCons (eFn (runF 6 d__law_box_cells) (dCons (eVar 0) (dNil))) (dCons (eVar 1) (dNil))))) (sFz 3 (sRet (eIf (bT (eBin oEq (eBin oIxA (eVar 3) (eBin oIxA (eVar 2) (eC (.int (1))))) (eBin oIxA (eVar 3) (eBin oIxA (eVar 2) (eC (.int (2))))))) (eTup (dCons (eC (.str "like")) (dNil))) (eC .none))))))))
theorem sc__law_box_fault : FnScope N__law_box_fault ["box", "m", "value"] (defScope (topS 22)) := ⟨rfl, rfl, rfl, by decide +kernel, rfl, by decide +kernel, by decide +kernel⟩
theorem fn__law_box_fault {f : Addr} {fd : FuncData} (F : Fun K "_law_box_fault" "_law_box_fault" (topS 22) f fd) (T : Tx K mg) : FnG P w K mg base 4 f fd ["box", "m", "value"] (spD P w K 3 (runF 5 d__law_box_fault)) := by
  obtain ⟨f__law_bars_fault, fd__law_bars_fault, F__law_bars_fault, b__law_bars_fault, m__law_bars_fault, k__law_bars_fault⟩ := T.f__law_bars_fault
  have G__law_bars_fault := (fn__law_bars_fault (P := P) (w := w) (base := base) F__law_bars_fault T).mono (show 2 ≤ 3 by decide)
  obtain ⟨f__law_box_cells, fd__law_box_cells, F__law_box_cells, b__law_box_cells, m__law_box_cells, k__law_box_cells⟩ := T.f__law_box_cells
  have G__law_box_cells := (fn__law_box_cells (P := P) (w := w) (base := base) F__law_box_cells T).mono (show 1 ≤ 3 by decide)
  obtain ⟨f__law_is_box_bar, fd__law_is_box_bar, F__law_is_box_bar, b__law_is_box_bar, m__law_is_box_bar, k__law_is_box_bar⟩ := T.f__law_is_box_bar
  have G__law_is_box_bar := (fn__law_is_box_bar (P := P) (w := w) (base := base) F__law_is_box_bar T).mono (show 3 ≤ 3 by decide)
  obtain ⟨f__law_is_int, fd__law_is_int, F__law_is_int, b__law_is_int, m__law_is_int, k__law_is_int⟩ := T.f__law_is_int
  have G__law_is_int := (fn__law_is_int (P := P) (w := w) (base := base) F__law_is_int T).mono (show 1 ≤ 3 by decide)
  obtain ⟨f__law_row, fd__law_row, F__law_row, b__law_row, m__law_row, k__law_row⟩ := T.f__law_row
  have G__law_row := (fn__law_row (P := P) (w := w) (base := base) F__law_row T).mono (show 1 ≤ 3 by decide)
  refine fnD_of (k := 3) (N := N__law_box_fault) F sc__law_box_fault fun cdv A outer s H hg hr => ?_
  have nd := sc__law_box_fault.nd
  have h64 : (A.deeper (PyProof.Rows.envOfC "_law_box_fault" (defScope (topS 22)) s.heap.objs.size f cdv)).units + 64 < cLine := by have := hr.un; omega
  have h65 : (A.deeper (PyProof.Rows.envOfC "_law_box_fault" (defScope (topS 22)) s.heap.objs.size f cdv)).units + 65 < cLine := by have := hr.un; omega
  have h70 : (A.deeper (PyProof.Rows.envOfC "_law_box_fault" (defScope (topS 22)) s.heap.objs.size f cdv)).units + 70 < cLine := by have := hr.un; omega
  exact el_cons (es_if (eb_w (ew_or (eb_not (eb_tru (ee_isi (by rfl) T.z_isinstance (ee_var 2 (pv 2)) (by rfl) T.z_tuple (by decide +kernel)))) (ew_or (eb_cmp (op_oNotInA h65) (ee_callB call_fLen (by rfl) T.z_len (by decide +kernel) (ea_cons (ee_var 2 (pv 2)) (ea_nil))) (ee_tup (ea_cons (ee_int) (ea_cons (ee_int) (ea_nil)))) (by rfl)) (ew_or1 (eb_not (eb_tru (ee_isi (by rfl) T.z_isinstance (ee_ixA h64 (ee_var 2 (pv 2)) (ee_int)) (by rfl) T.z_str (by decide +kernel)))))))) (el_one (es_ret (ee_tup (ea_cons (ee_str) (ea_nil))))) (el_nil)) (el_cons (es_if (eb_cmp (op_oEq h64) (ee_callB call_fLen (by rfl) T.z_len (by decide +kernel) (ea_cons (ee_var 2 (pv 2)) (ea_nil))) (ee_int) (nomark _)) (el_cons (es_if (eb_w (ew_or (eb_cmp (op_oNe h64) (ee_ixA h64 (ee_var 2 (pv 2)) (ee_int)) (ee_str) (nomark _)) (ew_or1 (eb_not (eb_tru (ee_isi (by rfl) T.z_isinstance (ee_ixA h64 (ee_var 2 (pv 2)) (ee_int)) (by rfl) T.z_tuple (by decide +kernel))))))) (el_one (es_ret (ee_tup (ea_cons (ee_str) (ea_nil))))) (el_nil)) (el_cons (es_if (eb_cmp (op_oNe h64) (ee_lc (own := [("bar", 4)]) (blkOk_by (N := N__law_box_fault) (sc := defScope (topS 22)) (by decide +kernel)) (eic_seq (ee_ixA h64 (ee_var 2 (pv 2)) (ee_int))) (fun _ _ _ _ _ => eg_name (i := 4) nd rfl (.inl rfl)) (fun _ _ _ _ _ => ets_one (eb_not (eb_tru (ee_fn G__law_is_box_bar m__law_is_box_bar k__law_is_box_bar b__law_is_box_bar hg hr (by rfl) (ea_cons (ee_var 0 (pv 0)) (ea_cons (ee_var 4 (pv 4)) (ea_nil))) (n_cons (n_cons n_nil)))))) (fun _ _ _ _ _ => ee_int) nd rfl) (ee_lst (ea_nil)) (nomark _)) (el_one (es_ret (ee_tup (ea_cons (ee_str) (ea_nil))))) (el_nil)) (el_one (es_ret (ee_fn G__law_bars_fault m__law_bars_fault k__law_bars_fault b__law_bars_fault hg hr (by rfl) (ea_cons (ee_var 0 (pv 0)) (ea_cons (ee_var 1 (pv 1)) (ea_cons (ee_ixA h64 (ee_var 2 (pv 2)) (ee_int)) (ea_nil)))) (n_cons (n_cons (n_cons n_nil)))))))) (el_nil)) (el_cons (es_if (eb_w (ew_or (eb_cmp (op_oNe h64) (ee_ixA h64 (ee_var 2 (pv 2)) (ee_int)) (ee_str) (nomark _)) (ew_or (eb_not (eb_tru (ee_fn G__law_is_int m__law_is_int k__law_is_int b__law_is_int hg hr (by rfl) (ea_cons (ee_ixA h64 (ee_var 2 (pv 2)) (ee_int)) (ea_nil)) (n_cons n_nil)))) (ew_or1 (eb_not (eb_tru (ee_fn G__law_is_int m__law_is_int k__law_is_int b__law_is_int hg hr (by rfl) (ea_cons (ee_ixA h64 (ee_var 2 (pv 2)) (ee_int)) (ea_nil)) (n_cons n_nil)))))))) (el_one (es_ret (ee_tup (ea_cons (ee_str) (ea_nil))))) (el_nil)) (el_cons (es_if (eb_not (eb_chain3 (op_oLeA h70) (op_oLtA h70) (op_oLtA h70) (ee_int) (ee_ixA h64 (ee_var 2 (pv 2)) (ee_int)) (ee_ixA h64 (ee_var 2 (pv 2)) (ee_int)) (ee_var 1 (pv 1)))) (el_one (es_ret (ee_tup (ea_cons (ee_str) (ea_nil))))) (el_nil)) (el_cons (es_set (i := 3) (ee_fn G__law_row m__law_row k__law_row b__law_row hg hr (by rfl) (ea_cons (ee_fn G__law_box_cells m__law_box_cells k__law_box_cells b__law_box_cells hg hr (by rfl) (ea_cons (ee_var 0 (pv 0)) (ea_nil)) (n_cons n_nil)) (ea_cons (ee_var 1 (pv 1)) (ea_nil))) (n_cons (n_cons n_nil))) (hN := nd) (hi := rfl) (hx := .inl rfl)) (el_fz 3 (el_one (es_ret (ee_if (eb_cmp (op_oEq h64) (ee_ixA h64 (ee_var 3 (pv 3)) (ee_ixA h64 (ee_var 2 (pv 2)) (ee_int))) (ee_ixA h64 (ee_var 3 (pv 3)) (ee_ixA h64 (ee_var 2 (pv 2)) (ee_int))) (nomark _)) (ee_tup (ea_cons (ee_str) (ea_nil))) (ee_non)))))))))
/-! law -/
def N_law : List Str := ["script", "source", "lap", "m", "box", "row", "told", "is_laid", "some", "side"]
def d_law : SD := sSeq (sFor (iRan1 (dCons (eC (.int (4))) (dNil))) (.n 2) (sSeq (sSet 3 (eFn (runF 2 d__law_of) (dCons (eVar 1) (dCons (eLst (dCons (eC (.int (2))) (dCons (eC (.int (2))) (dCons (eC (.int (3))) (dCons (eC (.int (3))) (dCons (eC (.int (4))) (dCons (eC (.int (5))) (dCons (eC (.int (6))) (dCons (eC (.int (7))) (dCons (eC (.int (8))) (dCons (eC (.int (9))) (dNil)))))))))))) (dNil))))) (sFz 3 (sSeq (sSet 4 (eFn (runF 8 d__law_box) (dCons (eVar 1) (dCons (eVar 3) (dCons (eIf (bT (eBin oEq (eFn fPick (dCons (eVar 1) (dCons (eC (.int (30))) (dNil)))) (eC (.int (0))))) (eC (.int (1500))) (eC (.int (90)))) (dNil)))))) (sFz 4 (sSeq (sPar 5 6 (eFn (runF 4 d__law_row) (dCons (eFn (runF 6 d__law_box_cells) (dCons (eVar 4) (dNil))) (dCons (eVar 3) (dNil)))) (eFn (runF 7 d_box_paper) (dCons (eVar 4) (dCons (eVar 3) (dNil))))) (sFz 5 (sFz 6 (sSeq (sIf (bOr (bT (eBin oNe (eCall fRepr (dCons (eFn (runF 4 d_box_row) (dCons (eVar 4) (dCons (eVar 3) (dNil)))) (dNil))) (eCall fRepr (dCons (eVar 5) (dNil))))) (bT (eBin oNe (eCall fRepr (dCons (eFn (runF 7 d_box_paper) (dCons (eVar 4) (dCons (eVar 3) (dNil)))) (dNil))) (eCall fRepr (dCons (eVar 6) (dNil)))))) (sRet (eC (.bool false))) (sNil)) (sSeq (sIf (bOr (bT (eBin oIsNot (eFn (runF 5 d__law_box_fault) (dCons (eVar 4) (dCons (eVar 3) (dCons (eVar 6) (dNil))))) (eC .none))) (bT (eBin oIsNot (eFn (runF 6 d_judge_box) (dCons (eVar 4) (dCons (eVar 3) (dCons (eVar 6) (dNil))))) (eC .none)))) (sRet (eC (.bool false))) (sNil)) (sSeq (sSet 7 (eBin oNe (eLc [9] (iSeq Tag.rd (eVar 4)) (.n 9) (bT (eBin oEq (eBin oMod (eCall fInt (dCons (eVar 9) (dNil))) (eVar 3)) (eC (.int (0))))) (eVar 9)) (eLst (dNil)))) (sIf (bOr (bT (eBin oNe (eBin oEq (eBin oIxA (eVar 6) (eC (.int (0)))) (eC (.str "laying"))) (eVar 7))) (bT (eBin oNe (eBin oEq (eCall fLen (dCons (eSrtSet (eVar 5)) (dNil))) (eC (.int (1)))) (eVar 7)))) (sRet (eC (.bool false))) (sNil))))))))))))) (sFz 4 (sFz 3 (sFz 5 (sFz 6 (sSeq (sSet 8 (eLst (dCons (eBin oIxA (eFn (runF 7 d_box_paper) (dCons (eTup (dCons (eC (.int (2))) (dCons (eC (.int (3))) (dNil)))) (dCons (eC (.int (3))) (dNil)))) (eC (.int (0)))) (dCons (eFn (runF 4 d_box_row) (dCons (eTup (dCons (eC (.int (2))) (dCons (eC (.int (2))) (dNil)))) (dCons (eC (.int (3))) (dNil)))) (dCons (eFn (runF 6 d_judge_box) (dCons (eTup (dCons (eC (.int (2))) (dCons (eC (.int (2))) (dNil)))) (dCons (eC (.int (3))) (dCons (eTup (dCons (eC (.str "colours")) (dCons (eC (.int (0))) (dCons (eC (.int (1))) (dNil))))) (dNil))))) (dNil)))))) (sFz 8 (sRet (eBin oEq (eCall fRepr (dCons (eVar 8) (dNil))) (eCall fRepr (dCons (eLst (dCons (eC (.str "laying")) (dCons (eTup (dCons (eC (.int (1))) (dCons (eC (.int (2))) (dCons (eC (.int (1))) (dNil))))) (dCons (eC .none) (dNil))))) (dNil)))))))))))
theorem sc_law : FnScope N_law ["script"] (defScope (topS 23)) := ⟨rfl, rfl, rfl, by decide +kernel, rfl, by decide +kernel, by decide +kernel⟩
theorem fn_law {f : Addr} {fd : FuncData} (F : Fun K "law" "law" (topS 23) f fd) (T : Tx K mg) (gives : ∀ s : Src, ∃ S', d_law (lawEnv N_law.length) (some s) = some (.rt (.bool true) .cl S')) : FnG P w K mg base 5 f fd ["script"] (spLaw K) := by
  obtain ⟨f__law_box, fd__law_box, F__law_box, b__law_box, m__law_box, k__law_box⟩ := T.f__law_box
  have G__law_box := (fn__law_box (P := P) (w := w) (base := base) F__law_box T).mono (show 2 ≤ 4 by decide)
  obtain ⟨f__law_box_cells, fd__law_box_cells, F__law_box_cells, b__law_box_cells, m__law_box_cells, k__law_box_cells⟩ := T.f__law_box_cells
  have G__law_box_cells := (fn__law_box_cells (P := P) (w := w) (base := base) F__law_box_cells T).mono (show 1 ≤ 4 by decide)
  obtain ⟨f__law_box_fault, fd__law_box_fault, F__law_box_fault, b__law_box_fault, m__law_box_fault, k__law_box_fault⟩ := T.f__law_box_fault
  have G__law_box_fault := (fn__law_box_fault (P := P) (w := w) (base := base) F__law_box_fault T).mono (show 4 ≤ 4 by decide)
  obtain ⟨f__law_of, fd__law_of, F__law_of, b__law_of, m__law_of, k__law_of⟩ := T.f__law_of
  have G__law_of := (fn__law_of (P := P) (w := w) (base := base) F__law_of T).mono (show 2 ≤ 4 by decide)
  obtain ⟨f__law_pick, fd__law_pick, F__law_pick, b__law_pick, m__law_pick, k__law_pick⟩ := T.f__law_pick
  have G__law_pick := (fn__law_pick (P := P) (w := w) (base := base) F__law_pick T).mono (show 1 ≤ 4 by decide)
  obtain ⟨f__law_row, fd__law_row, F__law_row, b__law_row, m__law_row, k__law_row⟩ := T.f__law_row
  have G__law_row := (fn__law_row (P := P) (w := w) (base := base) F__law_row T).mono (show 1 ≤ 4 by decide)
  obtain ⟨f__law_source, fd__law_source, F__law_source, b__law_source, m__law_source, k__law_source⟩ := T.f__law_source
  have G__law_source := (fn__law_source (P := P) (w := w) (base := base) F__law_source T).mono (show 1 ≤ 4 by decide)
  obtain ⟨f_box_paper, fd_box_paper, F_box_paper, b_box_paper, m_box_paper, k_box_paper⟩ := T.f_box_paper
  have G_box_paper := (fn_box_paper (P := P) (w := w) (base := base) F_box_paper T).mono (show 3 ≤ 4 by decide)
  obtain ⟨f_box_row, fd_box_row, F_box_row, b_box_row, m_box_row, k_box_row⟩ := T.f_box_row
  have G_box_row := (fn_box_row (P := P) (w := w) (base := base) F_box_row T).mono (show 2 ≤ 4 by decide)
  obtain ⟨f_judge_box, fd_judge_box, F_judge_box, b_judge_box, m_judge_box, k_judge_box⟩ := T.f_judge_box
  have G_judge_box := (fn_judge_box (P := P) (w := w) (base := base) F_judge_box T).mono (show 4 ≤ 4 by decide)
  refine law_of (k := 4) F sc_law (by decide) (fun cdv A outer s H hg hr => ?_) gives
  have nd := sc_law.nd
  have h64 : (A.deeper (PyProof.Rows.envOfC "law" (defScope (topS 23)) s.heap.objs.size f cdv)).units + 64 < cLine := by have := hr.un; omega
  have h65 : (A.deeper (PyProof.Rows.envOfC "law" (defScope (topS 23)) s.heap.objs.size f cdv)).units + 65 < cLine := by have := hr.un; omega
  have h70 : (A.deeper (PyProof.Rows.envOfC "law" (defScope (topS 23)) s.heap.objs.size f cdv)).units + 70 < cLine := by have := hr.un; omega
  exact pss_cons (ps_set (i := 1) nd rfl (.inl rfl) (pe_fnG G__law_source hg hr (by rfl) m__law_source k__law_source b__law_source (pa_cons (pv 0) pa_nil) (by decide) (by rfl) (by rfl))) (el_cons (es_for PassesOwn.never rfl (ei_ran1 (by rfl) T.z_range (ea_cons (ee_int) (ea_nil))) (eg_name (i := 2) nd rfl (.inl rfl)) (el_cons (es_set (i := 3) (ee_fn G__law_of m__law_of k__law_of b__law_of hg hr (by rfl) (ea_cons (ee_var 1 (pv 1)) (ea_cons (ee_lst (ea_cons (ee_int) (ea_cons (ee_int) (ea_cons (ee_int) (ea_cons (ee_int) (ea_cons (ee_int) (ea_cons (ee_int) (ea_cons (ee_int) (ea_cons (ee_int) (ea_cons (ee_int) (ea_cons (ee_int) (ea_nil)))))))))))) (ea_nil))) (n_cons (n_cons n_nil))) (hN := nd) (hi := rfl) (hx := .inr rfl)) (el_fz 3 (el_cons (es_set (i := 4) (ee_fn G__law_box m__law_box k__law_box b__law_box hg hr (by rfl) (ea_cons (ee_var 1 (pv 1)) (ea_cons (ee_var 3 (pv 3)) (ea_cons (ee_if (eb_cmp (op_oEq h64) (ee_fn G__law_pick m__law_pick k__law_pick b__law_pick hg hr (by rfl) (ea_cons (ee_var 1 (pv 1)) (ea_cons (ee_int) (ea_nil))) (n_cons (n_cons n_nil))) (ee_int) (nomark _)) (ee_int) (ee_int)) (ea_nil)))) (n_cons (n_cons (n_cons n_nil)))) (hN := nd) (hi := rfl) (hx := .inl rfl)) (el_fz 4 (el_cons (es_par (i := 5) (j := 6) rfl rfl (ee_fn G__law_row m__law_row k__law_row b__law_row hg hr (by rfl) (ea_cons (ee_fn G__law_box_cells m__law_box_cells k__law_box_cells b__law_box_cells hg hr (by rfl) (ea_cons (ee_var 4 (pv 4)) (ea_nil)) (n_cons n_nil)) (ea_cons (ee_var 3 (pv 3)) (ea_nil))) (n_cons (n_cons n_nil))) (ee_fn G_box_paper m_box_paper k_box_paper b_box_paper hg hr (by rfl) (ea_cons (ee_var 4 (pv 4)) (ea_cons (ee_var 3 (pv 3)) (ea_nil))) (n_cons (n_cons n_nil))) (by rfl) rfl nd rfl rfl (by decide)) (el_fz 5 (el_fz 6 (el_cons (es_if (eb_w (ew_or (eb_cmp (op_oNe h64) (ee_callB (call_fRepr hg h70) (by rfl) T.z_repr (by decide +kernel) (ea_cons (ee_fn G_box_row m_box_row k_box_row b_box_row hg hr (by rfl) (ea_cons (ee_var 4 (pv 4)) (ea_cons (ee_var 3 (pv 3)) (ea_nil))) (n_cons (n_cons n_nil))) (ea_nil))) (ee_callB (call_fRepr hg h70) (by rfl) T.z_repr (by decide +kernel) (ea_cons (ee_var 5 (pv 5)) (ea_nil))) (nomark _)) (ew_or1 (eb_cmp (op_oNe h64) (ee_callB (call_fRepr hg h70) (by rfl) T.z_repr (by decide +kernel) (ea_cons (ee_fn G_box_paper m_box_paper k_box_paper b_box_paper hg hr (by rfl) (ea_cons (ee_var 4 (pv 4)) (ea_cons (ee_var 3 (pv 3)) (ea_nil))) (n_cons (n_cons n_nil))) (ea_nil))) (ee_callB (call_fRepr hg h70) (by rfl) T.z_repr (by decide +kernel) (ea_cons (ee_var 6 (pv 6)) (ea_nil))) (nomark _))))) (el_one (es_ret (ee_bl))) (el_nil)) (el_cons (es_if (eb_w (ew_or (eb_cmp op_oIsNot (ee_fn G__law_box_fault m__law_box_fault k__law_box_fault b__law_box_fault hg hr (by rfl) (ea_cons (ee_var 4 (pv 4)) (ea_cons (ee_var 3 (pv 3)) (ea_cons (ee_var 6 (pv 6)) (ea_nil)))) (n_cons (n_cons (n_cons n_nil)))) (ee_non) (nomark _)) (ew_or1 (eb_cmp op_oIsNot (ee_fn G_judge_box m_judge_box k_judge_box b_judge_box hg hr (by rfl) (ea_cons (ee_var 4 (pv 4)) (ea_cons (ee_var 3 (pv 3)) (ea_cons (ee_var 6 (pv 6)) (ea_nil)))) (n_cons (n_cons (n_cons n_nil)))) (ee_non) (nomark _))))) (el_one (es_ret (ee_bl))) (el_nil)) (el_cons (es_set (i := 7) (ee_cmp (op_oNe h64) (ee_lc (own := [("side", 9)]) (blkOk_by (N := N_law) (sc := defScope (topS 23)) (by decide +kernel)) (eic_seq (ee_var 4 (pv 4))) (fun _ _ _ _ _ => eg_name (i := 9) nd rfl (.inl rfl)) (fun _ _ _ _ _ => ets_one (eb_cmp (op_oEq h64) (ee_bin op_oMod (ee_callTy call_fInt (by rfl) T.z_int (by decide +kernel) (ea_cons (ee_var 9 (pv 9)) (ea_nil))) (ee_var 3 (pv 3))) (ee_int) (nomark _))) (fun _ _ _ _ _ => ee_var 9 (pv 9)) nd rfl) (ee_lst (ea_nil)) (nomark _)) (hN := nd) (hi := rfl) (hx := .inl rfl)) (el_one (es_if (eb_w (ew_or (eb_cmp (op_oNe h64) (ee_cmp (op_oEq h64) (ee_ixA h64 (ee_var 6 (pv 6)) (ee_int)) (ee_str) (nomark _)) (ee_var 7 (pv 7)) (nomark _)) (ew_or1 (eb_cmp (op_oNe h64) (ee_cmp (op_oEq h64) (ee_callB call_fLen (by rfl) T.z_len (by decide +kernel) (ea_cons (ee_srtSet rfl (by rfl) T.z_sorted (by rfl) T.z_set (ee_var 5 (pv 5))) (ea_nil))) (ee_int) (nomark _)) (ee_var 7 (pv 7)) (nomark _))))) (el_one (es_ret (ee_bl))) (el_nil)))))))))))))) (el_fz 4 (el_fz 3 (el_fz 5 (el_fz 6 (el_cons (es_set (i := 8) (ee_lst (ea_cons (ee_ixA h64 (ee_fn G_box_paper m_box_paper k_box_paper b_box_paper hg hr (by rfl) (ea_cons (ee_tup (ea_cons (ee_int) (ea_cons (ee_int) (ea_nil)))) (ea_cons (ee_int) (ea_nil))) (n_cons (n_cons n_nil))) (ee_int)) (ea_cons (ee_fn G_box_row m_box_row k_box_row b_box_row hg hr (by rfl) (ea_cons (ee_tup (ea_cons (ee_int) (ea_cons (ee_int) (ea_nil)))) (ea_cons (ee_int) (ea_nil))) (n_cons (n_cons n_nil))) (ea_cons (ee_fn G_judge_box m_judge_box k_judge_box b_judge_box hg hr (by rfl) (ea_cons (ee_tup (ea_cons (ee_int) (ea_cons (ee_int) (ea_nil)))) (ea_cons (ee_int) (ea_cons (ee_tup (ea_cons (ee_str) (ea_cons (ee_int) (ea_cons (ee_int) (ea_nil))))) (ea_nil)))) (n_cons (n_cons (n_cons n_nil)))) (ea_nil))))) (hN := nd) (hi := rfl) (hx := .inl rfl)) (el_fz 8 (el_one (es_ret (ee_cmp (op_oEq h64) (ee_callB (call_fRepr hg h70) (by rfl) T.z_repr (by decide +kernel) (ea_cons (ee_var 8 (pv 8)) (ea_nil))) (ee_callB (call_fRepr hg h70) (by rfl) T.z_repr (by decide +kernel) (ea_cons (ee_lst (ea_cons (ee_str) (ea_cons (ee_tup (ea_cons (ee_int) (ea_cons (ee_int) (ea_cons (ee_int) (ea_nil))))) (ea_cons (ee_non) (ea_nil))))) (ea_nil))) (nomark _)))))))))))
end G86

namespace G86
open PySem L2 Ev

/-! ### boxes -/
def ext (found : List (List Nat)) (s : Nat) : List (List Nat) := found.flatMap fun c => (List.range s).map fun i => c ++ [i]
def cells (box : List Nat) : List (List Nat) := box.foldl ext [[]]
def vol (box : List Nat) : Nat := box.foldl (· * ·) 1
theorem cells_snoc (p : List Nat) (a : Nat) : cells (p ++ [a]) = ext (cells p) a := by unfold cells; rw [List.foldl_append]; rfl
theorem vol_snoc (p : List Nat) (a : Nat) : vol (p ++ [a]) = vol p * a := by unfold vol; rw [List.foldl_append]; rfl
theorem ext_length (found : List (List Nat)) (s : Nat) : (ext found s).length = found.length * s := by
  unfold ext
  induction found with
  | nil => simp
  | cons a r ih => rw [List.flatMap_cons, List.length_append, ih, List.length_map, List.length_range, List.length_cons, Nat.add_mul, Nat.one_mul, Nat.add_comm]
theorem cells_length_aux : ∀ (r p : List Nat), (cells p).length = vol p → (cells (p ++ r)).length = vol (p ++ r)
  | [], p, h => by simpa using h
  | a :: r, p, h => by
    have := cells_length_aux r (p ++ [a]) (by rw [cells_snoc, vol_snoc, ext_length, h])
    simpa using this
theorem cells_length (box : List Nat) : (cells box).length = vol box := cells_length_aux box [] rfl
/-- sides of at least one, and not too many cells -/
structure Bx (box : List Nat) : Prop where
  pos : ∀ s ∈ box, 1 ≤ s
  vol : vol box ≤ 1500
theorem vol_mono : ∀ (r p : List Nat), (∀ s ∈ r, 1 ≤ s) → vol p ≤ vol (p ++ r)
  | [], p, _ => by simp
  | a :: r, p, h => by
    have h1 := vol_mono r (p ++ [a]) fun s hs => h s (List.mem_cons_of_mem _ hs)
    rw [vol_snoc] at h1
    have h2 : 1 ≤ a := h a List.mem_cons_self
    have h3 : vol p * 1 ≤ vol p * a := Nat.mul_le_mul_left _ h2
    have : p ++ a :: r = p ++ [a] ++ r := by simp
    rw [this]
    omega
theorem Bx.pre {p r : List Nat} (h : Bx (p ++ r)) : Bx p := ⟨fun s hs => h.pos s (List.mem_append_left _ hs), Nat.le_trans (vol_mono r p fun s hs => h.pos s (List.mem_append_right _ hs)) h.vol⟩
theorem vol_pos : ∀ (r p : List Nat), 1 ≤ vol p → (∀ s ∈ r, 1 ≤ s) → 1 ≤ vol (p ++ r)
  | [], p, h, _ => by simpa using h
  | a :: r, p, h, hr => by
    have := vol_pos r (p ++ [a]) (by rw [vol_snoc]; exact Nat.mul_pos h (hr a List.mem_cons_self)) fun s hs => hr s (List.mem_cons_of_mem _ hs)
    simpa using this
theorem Bx.vpos {p : List Nat} (h : Bx p) : 1 ≤ G86.vol p := by
  have := vol_pos p [] (Nat.le_refl 1) h.pos
  simpa using this
theorem Bx.side {p r : List Nat} {a : Nat} (h : Bx (p ++ a :: r)) : a ≤ 1500 := by
  have h0 : Bx (p ++ [a] ++ r) := by simpa using h
  have h1 := h0.pre
  have h2 := h1.vol
  rw [vol_snoc] at h2
  have h3 := h1.pre.vpos
  have : 1 * a ≤ G86.vol p * a := Nat.mul_le_mul_right _ h3
  omega
theorem Bx.side' {box : List Nat} {a : Nat} (h : Bx box) (m : a ∈ box) : a ≤ 1500 := by
  obtain ⟨p, r, e⟩ := List.append_of_mem m
  exact (e ▸ h).side

theorem TN_add (c : List Nat) (i : Nat) : PyData.tuple (c.map nD ++ [nD i]) = TN (c ++ [i]) := by unfold TN; simp
theorem ran1_at {n : Nat} {ms : EDs} {env : En} {S s : SS} {t : Tag} (h : ms env S = some ([(nD n, t)], s)) (ht : t.rd = true) (hn : n ≤ 1000000) : iRan1 ms env S = some ((List.range n).map nD, s) := by
  unfold iRan1
  rw [h]
  show (if t.rd && decide ((n : Int) < 4611686018427387904) && decide (-4611686018427387904 ≤ (n : Int)) then some ((List.range (n : Int).toNat).map fun i => PyData.int ((i : Nat) : Int), s) else none) = _
  rw [if_pos (by rw [ht, Bool.true_and, Bool.and_eq_true]; exact ⟨decide_eq_true (by omega), decide_eq_true (by omega)⟩), Int.toNat_natCast]
theorem dStar_tup {m : ED} {ms : EDs} {env : En} {S s s' : SS} {ds : List PyData} {t : Tag} {r : List (PyData × Tag)} (h : m env S = some (.tuple ds, t, s)) (ht : t.rd = true) (h' : ms env s = some (r, s')) : dStar m ms env S = some (ds.map (fun d => (d, Tag.cl)) ++ r, s') := by
  unfold dStar; rw [h, Option.bind_some, if_pos ht]
  show (ms env s).bind _ = _
  rw [h']; rfl
theorem eTup_at {ms : EDs} {env : En} {S s : SS} {r : List (PyData × Tag)} {l : List PyData} (h : ms env S = some (r, s)) (hc : r.all (·.2.cln) = true) (hl : r.length ≤ 16777216) (e : r.map (·.1) = l) : eTup ms env S = some (.tuple l, .cl, s) := by
  unfold eTup; rw [h, Option.bind_some, if_pos (by rw [hc, Bool.true_and]; exact decide_eq_true hl), e]
theorem cells_len {box c : List Nat} (h : c ∈ cells box) : c.length = box.length := by
  suffices H : ∀ (r p : List Nat), (∀ c ∈ cells p, c.length = p.length) → ∀ c ∈ cells (p ++ r), c.length = (p ++ r).length by
    exact H box [] (by intro c hc; simp [cells] at hc; simp [hc]) c (by simpa using h)
  intro r
  induction r with
  | nil => intro p h c hc; simpa using h c (by simpa using hc)
  | cons a r ih =>
    intro p h c hc
    have := ih (p ++ [a]) (by
      intro c hc
      rw [cells_snoc] at hc
      unfold ext at hc
      obtain ⟨x, hx, hc⟩ := List.mem_flatMap.mp hc
      obtain ⟨i, hi, rfl⟩ := List.mem_map.mp hc
      rw [List.length_append, List.length_append, h x hx]; rfl) c (by simpa using hc)
    simpa using this

theorem v_box_cells {box : List Nat} (hb : Bx box) (hd : box.length ≤ 4) (S : SS) : runF 5 d_box_cells [some (TN box)] S = some (.list ((cells box).map TN), .cl, S) := by
  refine runF_rt (env := [.cl (TN box), .un, .un, .un, .un]) rfl ?_
  refine (sSeq_nx (sSet_fr (d := .list [TN []]) rfl (by simp))).trans ?_
  show sSeq _ _ [.cl (TN box), .cl (.list [TN []]), .un, .un, .un] S = _
  refine sFor_inv (f := nD) (fun p env => ∃ sl1 sl2, env = [.cl (TN box), sl1, sl2, .un, .un] ∧ (sl1 = .cl (.list ((cells p).map TN)) ∨ sl1 = .ow (.list ((cells p).map TN)))) box rfl ⟨_, _, rfl, .inl rfl⟩ ?_ ?_
  · rintro p a r env e ⟨sl1, sl2, rfl, h⟩
    refine ⟨[.cl (TN box), sl1, .cl (nD a), .un, .un], rfl, _, sSet_fr (eLc2_at (l := cells p) (f := TN) (l1 := fun _ => List.range a) (f1 := nD) (e := fun c i => TN (c ++ [i])) ?_ ?_ ?_ ?_) ?_, ⟨_, _, rfl, .inr ?_⟩⟩
    · rcases h with rfl | rfl <;> rfl
    · rfl
    · intro c hc
      refine ⟨_, rfl, ran1_at (n := a) (t := .cl) rfl rfl (Nat.le_trans (e ▸ hb).side (by decide)), rfl, fun b _ => ⟨_, rfl, .cl, rfl, ?_⟩⟩
      refine (eTup_at (l := c.map nD ++ [nD b]) (dStar_tup rfl rfl rfl) ?_ ?_ ?_).trans (by rw [TN_add])
      · simp [Tag.cln]
      · have : c.length ≤ 4 := by
          rw [cells_len hc]
          have : box.length = p.length + (r.length + 1) := by rw [e]; simp
          omega
        simp; omega
      · simp [Function.comp_def]
    · have h1 := (show Bx (p ++ [a] ++ r) by rw [e] at hb; simpa using hb).pre
      have h2 := h1.vol
      rw [← cells_length, cells_snoc] at h2
      unfold ext at h2
      have : ((cells p).flatMap fun c => (List.range a).map fun i => TN (c ++ [i])) = ((cells p).flatMap fun c => (List.range a).map fun i => c ++ [i]).map TN := by
        rw [List.map_flatMap]; simp [Function.comp_def]
      rw [this, List.length_map]
      omega
    · simp
    · rw [cells_snoc]; unfold ext; rw [List.map_flatMap]; simp [Function.comp_def]
  · rintro env ⟨sl1, sl2, rfl, h⟩
    rcases h with rfl | rfl <;> rfl
end G86

namespace G86
open PySem L2 Ev

theorem v_law_cells {box : List Nat} (hb : Bx box) (hd : box.length ≤ 4) (S : SS) : runF 6 d__law_box_cells [some (TN box)] S = some (.list ((cells box).map TN), .cl, S) := by
  refine runF_rt (env := [.cl (TN box), .un, .un, .un, .un, .un]) rfl ?_
  refine (sSeq_nx (sSet_fr (d := .list [TN []]) rfl (by simp))).trans ?_
  show sSeq _ _ [.cl (TN box), .cl (.list [TN []]), .un, .un, .un, .un] S = _
  refine sFor_inv (f := nD) (fun p env => ∃ sl2 sl3 sl4, env = [.cl (TN box), .cl (.list ((cells p).map TN)), sl2, sl3, sl4, .un]) box rfl ⟨_, _, _, rfl⟩ ?_ ?_
  · rintro p a r env e ⟨sl2, sl3, sl4, rfl⟩
    have hx : Bx (p ++ [a]) := (show Bx (p ++ [a] ++ r) by rw [e] at hb; simpa using hb).pre
    have hv := hx.vol
    rw [← cells_length, cells_snoc] at hv
    refine ⟨[.cl (TN box), .cl (.list ((cells p).map TN)), .cl (nD a), sl3, sl4, .un], rfl, ?_⟩
    rw [sSeq_nx (sSet_fr (d := .list []) rfl (by simp))]
    show ∃ env2, sSeq _ _ [.cl (TN box), .cl (.list ((cells p).map TN)), .cl (nD a), .cl (.list []), sl4, .un] S = _ ∧ _
    have H := sFor_go (rest := sFz 3 (sSet 1 (eVar 3))) (it := iSeq Tag.cln (eVar 1)) (g := .n 4) (S := S) (env := [.cl (TN box), .cl (.list ((cells p).map TN)), .cl (nD a), .cl (.list []), sl4, .un])
      (body := sSet 3 (eBin oAdd (eVar 3) (eLc [5] (iRan1 (dCons (eVar 2) (dNil))) (.n 5) (bYes) (eBin oAdd (eVar 4) (eTup (dCons (eVar 5) (dNil)))))))
      (f := TN) (fun q env2 => ∃ sl3 sl4, env2 = [.cl (TN box), .cl (.list ((cells p).map TN)), .cl (nD a), sl3, sl4, .un] ∧ (sl3 = .cl (.list ((ext q a).map TN)) ∨ sl3 = .ow (.list ((ext q a).map TN)))) (cells p) rfl ⟨_, _, rfl, .inl rfl⟩ ?_
    · obtain ⟨e2, ⟨s3, s4, rfl, h⟩, H⟩ := H
      rw [H]
      rw [cells_snoc]
      rcases h with rfl | rfl
      · exact ⟨_, rfl, _, _, _, rfl⟩
      · exact ⟨_, rfl, _, _, _, rfl⟩
    · rintro q c rr env2 e2 ⟨s3, s4, rfl, h⟩
      refine ⟨_, rfl, ?_⟩
      show ∃ env2, sSet 3 _ [.cl (TN box), .cl (.list ((cells p).map TN)), .cl (nD a), s3, .cl (TN c), .un] S = _ ∧ _
      have hc : c ∈ cells p := by rw [e2]; simp
      have hq : (ext q a).length + a ≤ 1500 := by
        rw [ext_length] at hv ⊢
        rw [e2, List.length_append, List.length_cons] at hv
        have : (q.length + 1) * a ≤ (q.length + (rr.length + 1)) * a := Nat.mul_le_mul_right _ (by omega)
        rw [Nat.add_mul, Nat.one_mul] at this
        omega
      have hc4 : c.length ≤ 4 := by
        rw [cells_len hc]
        have : box.length = p.length + (r.length + 1) := by rw [e]; simp
        omega
      refine ⟨_, sSet_fr (d := .list ((ext (q ++ [c]) a).map TN)) (eBin_at (d := .list ((ext q a).map TN)) (t := match s3 with | .cl _ => .cl | _ => .tp 3) (e := .list ((List.range a).map fun i => TN (c ++ [i]))) (u := .fr) (s := S) ?_ ?_ ?_ ?_) (by simp), _, _, rfl, .inr rfl⟩
      · rcases h with rfl | rfl <;> rfl
      · refine eLc_yes (l := List.range a) (f := nD) (ran1_at (n := a) (t := .cl) rfl rfl (by omega)) rfl (fun i _ => ⟨_, rfl, .cl, rfl, ?_⟩) (by simp; omega)
        refine (eBin_at (s := S) (s' := S) (d := TN c) (e := TN [i]) (t := .cl) (u := .cl) (f := TN (c ++ [i])) (v := .cl) rfl rfl rfl ?_)
        show (if (c.map nD).length + ([i].map nD).length ≤ 16777216 then some (PyData.tuple (c.map nD ++ [i].map nD), Tag.cl) else none) = _
        rw [if_pos (by simp; omega)]
        unfold TN; rw [List.map_append]
      · rcases h with rfl | rfl <;> rfl
      · show (if ((ext q a).map TN).length + ((List.range a).map fun i => TN (c ++ [i])).length ≤ 16777216 then some (PyData.list ((ext q a).map TN ++ (List.range a).map fun i => TN (c ++ [i])), Tag.fr) else none) = _
        rw [if_pos (by simp; omega)]
        congr 3
        unfold ext
        rw [List.flatMap_append, List.map_append]
        simp [Function.comp_def]
  · rintro env ⟨sl2, sl3, sl4, rfl⟩
    cases sl3 <;> rfl

def cnt (m : Nat) (L : List (List Nat)) (c : Nat) : Nat := L.countP fun x => x.sum % m == c
def rowOf (m : Nat) (L : List (List Nat)) : List Nat := (List.range m).map (cnt m L)
theorem fSum_TN (c : List Nat) (t : Tag) : fSum [(TN c, t)] = some (nD c.sum, .cl) := by
  unfold fSum TN
  show (intsOf (c.map nD)).map _ = _
  rw [intsOf_nD]
  show some (PyData.int (c.map Int.ofNat).sum, Tag.cl) = _
  rw [sum_ofNat]
theorem oMod_nat {a m : Nat} (h : m ≠ 0) (t u : Tag) : oMod (nD a) t (nD m) u = some (nD (a % m), .cl) := by
  show (if decide ((m : Int) ≠ 0) = true then some (PyData.int (Int.fmod a m), Tag.cl) else none) = _
  rw [if_pos (decide_eq_true (by omega)), fmod_nat]
theorem v_box_row {box : List Nat} {m : Nat} (hb : Bx box) (hd : box.length ≤ 4) (h1 : 1 ≤ m) (h2 : m ≤ 1000) (S : SS) : runF 4 d_box_row [some (TN box), some (nD m)] S = some (TN (rowOf m (cells box)), .cl, S) := by
  refine runF_rt (env := [.cl (TN box), .cl (nD m), .un, .un]) rfl ?_
  refine (sSeq_nx (s := S) (sSet_fr (d := .list ((List.range m).map fun c => nD (cnt m [] c))) ?_ (by simp))).trans ?_
  · refine eBin_at (s := S) (d := .list [.int 0]) (e := nD m) rfl rfl rfl ?_
    show (if (m : Int) < 9223372036854775808 ∧ -9223372036854775808 ≤ (m : Int) ∧ [PyData.int 0].length * (m : Int).toNat ≤ 16777216 then some (PyData.list (List.replicate (m : Int).toNat [PyData.int 0]).flatten, Tag.fr) else none) = _
    rw [if_pos ⟨by omega, by omega, by simp; omega⟩]
    congr 3
    rw [Int.toNat_natCast]
    apply List.ext_getElem?
    intro i
    by_cases hi : i < m
    · simp [hi, cnt]
    · simp [hi]
  refine sFor_inv (f := TN) (fun p env => ∃ sl, env = [.cl (TN box), .cl (nD m), .ow (.list ((List.range m).map fun c => nD (cnt m p c))), sl]) (cells box) ?_ ⟨_, rfl⟩ ?_ ?_
  · unfold iSeq
    rw [eFn_at (r := [(TN box, .cl)]) rfl rfl (v_box_cells hb hd S)]
    rfl
  · rintro p a r env e ⟨sl, rfl⟩
    refine ⟨[.cl (TN box), .cl (nD m), .ow (.list ((List.range m).map fun c => nD (cnt m p c))), .cl (TN a)], rfl, ?_⟩
    have hk : eBin oMod (eCall fSum (dCons (eVar 3) dNil)) (eVar 1) [.cl (TN box), .cl (nD m), .ow (.list ((List.range m).map fun c => nD (cnt m p c))), .cl (TN a)] S = some (nD (a.sum % m), .cl, S) :=
      eBin_at (eCall_at (r := [(TN a, .cl)]) rfl rfl (fSum_TN a .cl)) rfl rfl (oMod_nat (by omega) _ _)
    have hj : a.sum % m < m := Nat.mod_lt _ (by omega)
    unfold sAugIx
    rw [hk, Option.bind_some]
    refine ⟨[.cl (TN box), .cl (nD m), .ow (.list ((List.range m).map fun c => nD (cnt m (p ++ [a]) c))), .cl (TN a)], ?_, _, rfl⟩
    show (ixN ((List.range m).map fun c => nD (cnt m p c)).length ((a.sum % m : Nat) : Int)).bind _ = _
    rw [ixN_nat _ _ (by simpa using hj), Option.bind_some]
    have hg : ((List.range m).map fun c => nD (cnt m p c))[a.sum % m]? = some (nD (cnt m p (a.sum % m))) := by simp [hj]
    rw [hg]
    show some (Out.nx [.cl (TN box), .cl (nD m), .ow (.list (((List.range m).map fun c => nD (cnt m p c)).set (a.sum % m) (.int ((cnt m p (a.sum % m) : Int) + 1)))), .cl (TN a)] S) = _
    congr 7
    apply List.ext_getElem?
    intro i
    rw [List.getElem?_set]
    by_cases hi : i < m
    · by_cases hs : a.sum % m = i
      · subst hs
        simp [cnt, hj, nD]
      · simp [hi, hs, cnt, hj]
    · have : ¬ a.sum % m = i := by omega
      simp [hi, this]
  · rintro env ⟨sl, rfl⟩
    show some (Out.rt (.tuple ((List.range m).map fun c => nD (cnt m (cells box) c))) .cl S) = _
    unfold rowOf TN
    rw [List.map_map]
    rfl
end G86

namespace G86
open PySem L2 Ev

theorem oEq_nat (a b : Nat) (t u : Tag) : oEq (nD a) t (nD b) u = some (.bool (a == b), .cl) := by
  show some (PyData.bool ((a : Int) == (b : Int)), Tag.cl) = _
  by_cases h : a = b
  · subst h; simp
  · have : ¬ (a : Int) = (b : Int) := by omega
    rw [beq_eq_false_iff_ne.mpr this, beq_eq_false_iff_ne.mpr h]
theorem oNe_nat (a b : Nat) (t u : Tag) : oNe (nD a) t (nD b) u = some (.bool (!(a == b)), .cl) := by
  show some (PyData.bool (!((a : Int) == (b : Int))), Tag.cl) = _
  by_cases h : a = b
  · subst h; simp
  · have : ¬ (a : Int) = (b : Int) := by omega
    rw [beq_eq_false_iff_ne.mpr this, beq_eq_false_iff_ne.mpr h]
theorem cnt_filter (m : Nat) (L : List (List Nat)) (c : Nat) : (L.filter fun x => x.sum % m == c).length = cnt m L c := List.countP_eq_length_filter.symm
theorem v_law_row {L : List (List Nat)} {m : Nat} (h1 : 1 ≤ m) (h2 : m ≤ 1000) (hL : L.length ≤ 16777216) (S : SS) : runF 4 d__law_row [some (.list (L.map TN)), some (nD m)] S = some (TN (rowOf m L), .cl, S) := by
  refine runF_rt (env := [.cl (.list (L.map TN)), .cl (nD m), .un, .un]) rfl ?_
  refine sRet_cl (eCall_at (r := [(.list ((List.range m).map fun c => nD (cnt m L c)), .fr)]) (dCons_at (eLc_yes (l := List.range m) (f := nD) (S' := S) (ran1_at (n := m) (t := .cl) rfl rfl (by omega)) rfl (fun c _ => ⟨_, rfl, .cl, rfl, ?_⟩) (by simp; omega)) rfl) rfl (q := (TN (rowOf m L), .cl)) ?_)
  · refine eCall_at (q := (nD (cnt m L c), .cl)) (r := [(.list ((L.filter fun x => x.sum % m == c).map TN), .fr)]) (dCons_at (eLc_at (l := L) (f := TN) (S' := S) (e := TN) rfl rfl (fun x _ => ⟨_, rfl, bT_at (eBin_at (s := S) (eBin_at (s := S) (eCall_at (q := (nD x.sum, .cl)) (r := [(nD x.sum, .cl)]) (dCons_at (eCall_at (r := [(TN x, .cl)]) rfl rfl (fSum_TN x .cl)) rfl) rfl rfl) rfl rfl (oMod_nat (by omega) _ _)) rfl rfl (oEq_nat _ _ _ _)), fun _ => ⟨.cl, rfl, rfl⟩⟩) hL) rfl) rfl ?_
    show some (PyData.int (((L.filter fun x => x.sum % m == c).map TN).length : Nat), Tag.cl) = _
    rw [List.length_map, cnt_filter]
  · show some (PyData.tuple ((List.range m).map fun c => nD (cnt m L c)), Tag.cl) = _
    unfold rowOf TN
    rw [List.map_map]
    rfl

/-! ### the paper of a box -/
def barD (k : Nat) (c : List Nat) : PyData := .tuple [TN c, nD k]
def bars (m k : Nat) (box : List Nat) : List (List Nat) := (cells box).filter fun c => c.getD k 0 % m == 0
theorem enumD_nD (l : List Nat) : enumD (l.map nD) = l.zipIdx.map fun q => PyData.tuple [nD q.2, nD q.1] := by
  unfold enumD
  rw [List.zipIdx_map, List.map_map]
  rfl
theorem oIxA_TN (c : List Nat) (k : Nat) (h : k < c.length) (t u : Tag) : oIxA (TN c) t (nD k) u = some (nD (c.getD k 0), .cl) := by
  show (atI (c.map nD) (k : Int)).map (fun d => (d, Tag.cl)) = _
  rw [atI_at, List.getElem?_map, List.getElem?_eq_getElem h]
  simp [h]
theorem paper_go {box : List Nat} {m : Nat} (h1 : 1 ≤ m) (S : SS) {mm : SD} {p : List Nat} (hp : ∀ x ∈ p, x % m ≠ 0) : ∀ (q : List (Nat × Nat)) (a : Nat × Nat) (r : List (Nat × Nat)) (env : En), p.zipIdx = q ++ a :: r → (∃ s2 s3, env = [.cl (TN box), .cl (nD m), s2, s3, .un, .un, .un]) →
    ∃ env1, (Tg.t [.n 2, .n 3]).set (PyData.tuple [nD a.2, nD a.1]) env = some env1 ∧ ∃ env2, sIf (bT (eBin oEq (eBin oMod (eVar 3) (eVar 1)) (eC (.int (0))))) mm sNil env1 S = some (.nx env2 S) ∧ ∃ s2 s3, env2 = [.cl (TN box), .cl (nD m), s2, s3, .un, .un, .un] := by
  rintro q a r env e ⟨s2, s3, rfl⟩
  refine ⟨[.cl (TN box), .cl (nD m), .cl (nD a.2), .cl (nD a.1), .un, .un, .un], rfl, _, (sIf_f (s := S) (bT_at (eBin_at (s := S) (s' := S) (e := nD 0) (eBin_at (s := S) (s' := S) rfl rfl rfl (oMod_nat (a := a.1) (m := m) (by omega) _ _)) rfl rfl ((oEq_nat _ 0 _ .cl).trans ?_)))).trans rfl, _, _, rfl⟩
  have ha : a.1 ∈ p := by
    have : a ∈ p.zipIdx := by rw [e]; simp
    obtain ⟨x, i⟩ := a
    exact (List.mem_zipIdx this).2.2 ▸ List.getElem_mem _
  have := hp _ ha
  simp [this]
theorem v_paper_lay {box p r : List Nat} {s m : Nat} (hb : Bx box) (hd : box.length ≤ 4) (h1 : 1 ≤ m) (h2 : m ≤ 1000) (e : box = p ++ s :: r) (hp : ∀ x ∈ p, x % m ≠ 0) (hs : s % m = 0) (S : SS) :
    runF 7 d_box_paper [some (TN box), some (nD m)] S = some (.tuple [.str "laying", .tuple ((bars m p.length box).map (barD p.length))], .cl, S) := by
  refine runF_rt (env := [.cl (TN box), .cl (nD m), .un, .un, .un, .un, .un]) rfl ?_
  refine sFor_rt (f := fun q => PyData.tuple [nD q.2, nD q.1]) (fun _ env => ∃ s2 s3, env = [.cl (TN box), .cl (nD m), s2, s3, .un, .un, .un]) p.zipIdx (s, p.length) (r.zipIdx (p.length + 1)) ?_ ⟨_, _, rfl⟩ (paper_go h1 S hp) ?_
  · show some (enumD (box.map nD), S) = _
    rw [enumD_nD, e, List.zipIdx_append, List.zipIdx_cons]
    simp
  · rintro env ⟨s2, s3, rfl⟩
    refine ⟨[.cl (TN box), .cl (nD m), .cl (nD p.length), .cl (nD s), .un, .un, .un], rfl, (sIf_t (s := S) (bT_at (eBin_at (s := S) (s' := S) (e := nD 0) (eBin_at (s := S) (s' := S) rfl rfl rfl (oMod_nat (a := s) (m := m) (by omega) _ _)) rfl rfl ((oEq_nat _ 0 _ .cl).trans (by simp [hs]))))).trans ?_⟩
    refine sRet_cl (eTup_at (r := [(.str "laying", .cl), (.tuple ((bars m p.length box).map (barD p.length)), .cl)]) (dCons_at (s := S) rfl (dCons_at (s := S) (eCall_at (q := (.tuple ((bars m p.length box).map (barD p.length)), .cl)) (r := [(.list ((bars m p.length box).map (barD p.length)), .fr)]) (dCons_at (s := S) ?_ rfl) rfl rfl) rfl)) rfl (by simp) rfl)
    refine eLc_at (S' := S) (l := cells box) (f := TN) ?_ rfl (fun c hc => ⟨[.cl (TN box), .cl (nD m), .cl (nD p.length), .cl (nD s), .un, .cl (TN c), .un], rfl, ?_, fun _ => ⟨.cl, rfl, rfl⟩⟩) (by rw [cells_length]; exact Nat.le_trans hb.vol (by decide))
    · unfold iSeq
      rw [eFn_at (r := [(TN box, .cl)]) rfl rfl (v_box_cells hb hd S)]
      rfl
    · have hl : p.length < c.length := by rw [cells_len hc, e]; simp
      exact bT_at (eBin_at (s := S) (s' := S) (e := nD 0) (eBin_at (s := S) (s' := S) (eBin_at (s := S) (s' := S) rfl rfl rfl (oIxA_TN c p.length hl _ _)) rfl rfl (oMod_nat (by omega) _ _)) rfl rfl (oEq_nat _ 0 _ .cl))
end G86

namespace G86
open PySem L2 Ev

def ok (c box : List Nat) : Prop := c.length = box.length ∧ ∀ i, i < box.length → c.getD i 0 < box.getD i 0
theorem mem_ext {L : List (List Nat)} {a : Nat} {c : List Nat} : c ∈ ext L a ↔ ∃ x ∈ L, ∃ i, i < a ∧ x ++ [i] = c := by
  unfold ext
  rw [List.mem_flatMap]
  constructor
  · rintro ⟨x, hx, h⟩
    obtain ⟨i, hi, e⟩ := List.mem_map.mp h
    exact ⟨x, hx, i, List.mem_range.mp hi, e⟩
  · rintro ⟨x, hx, i, hi, e⟩
    exact ⟨x, hx, List.mem_map.mpr ⟨i, List.mem_range.mpr hi, e⟩⟩
theorem getD_app_l {x y : List Nat} {i : Nat} (h : i < x.length) : (x ++ y).getD i 0 = x.getD i 0 := by
  rw [List.getD_eq_getElem?_getD, List.getD_eq_getElem?_getD, List.getElem?_append_left h]
theorem getD_app_e {x : List Nat} {a : Nat} : (x ++ [a]).getD x.length 0 = a := by
  rw [List.getD_eq_getElem?_getD, List.getElem?_append_right (Nat.le_refl _)]; simp
theorem ok_snoc {x p : List Nat} {i a : Nat} : ok (x ++ [i]) (p ++ [a]) ↔ ok x p ∧ i < a := by
  constructor
  · rintro ⟨h1, h2⟩
    have hl : x.length = p.length := by simpa using h1
    refine ⟨⟨hl, fun j hj => ?_⟩, ?_⟩
    · have := h2 j (by simp; omega)
      rwa [getD_app_l (by omega), getD_app_l hj] at this
    · have := h2 p.length (by simp)
      rw [getD_app_e, ← hl, getD_app_e] at this
      exact this
  · rintro ⟨⟨hl, h⟩, hi⟩
    refine ⟨by simp [hl], fun j hj => ?_⟩
    by_cases q : j < p.length
    · rw [getD_app_l (by omega), getD_app_l q]; exact h j q
    · have : j = p.length := by simp at hj; omega
      subst this
      rw [getD_app_e, ← hl, getD_app_e]; exact hi
theorem snoc_of {c : List Nat} {n : Nat} (h : c.length = n + 1) : ∃ x i, c = x ++ [i] ∧ x.length = n := by
  refine ⟨c.dropLast, c.getLast (by intro e; rw [e] at h; simp at h), (List.dropLast_concat_getLast _).symm, by simp [h]⟩
theorem mem_cells {box c : List Nat} : c ∈ cells box ↔ ok c box := by
  suffices H : ∀ (r p : List Nat), (∀ c, c ∈ cells p ↔ ok c p) → ∀ c, c ∈ cells (p ++ r) ↔ ok c (p ++ r) by
    have := H box [] (by
      intro c
      unfold cells ok
      constructor
      · intro h
        simp at h
        subst h
        exact ⟨rfl, fun i hi => absurd hi (Nat.not_lt_zero i)⟩
      · rintro ⟨h, _⟩
        have : c = [] := List.length_eq_zero_iff.mp h
        simp [this]) c
    simpa using this
  intro r
  induction r with
  | nil => intro p h c; simpa using h c
  | cons a r ih =>
    intro p h c
    have := ih (p ++ [a]) (by
      intro c
      rw [cells_snoc, mem_ext]
      constructor
      · rintro ⟨x, hx, i, hi, rfl⟩
        exact ok_snoc.mpr ⟨(h x).mp hx, hi⟩
      · intro hc
        obtain ⟨x, i, rfl, hl⟩ := snoc_of (c := c) (n := p.length) (by rw [hc.1]; simp)
        obtain ⟨h1, h2⟩ := ok_snoc.mp hc
        exact ⟨x, (h x).mpr h1, i, h2, rfl⟩) c
    simpa using this

/-! ### the order of cells -/
def lx : List Nat → List Nat → Prop
  | a :: x, b :: y => a < b ∨ (a = b ∧ lx x y)
  | _, _ => False
theorem lx_app : ∀ {x y : List Nat}, lx x y → ∀ u v, lx (x ++ u) (y ++ v)
  | a :: x, b :: y, h, u, v => by
    rcases h with h | ⟨e, h⟩
    · exact .inl h
    · exact .inr ⟨e, lx_app h u v⟩
  | [], _, h, _, _ => h.elim
  | _ :: _, [], h, _, _ => h.elim
theorem lx_last : ∀ (x : List Nat) {i j : Nat}, i < j → lx (x ++ [i]) (x ++ [j])
  | [], _, _, h => .inl h
  | a :: x, _, _, h => .inr ⟨rfl, lx_last x h⟩
theorem lx_irr : ∀ (x : List Nat), ¬ lx x x
  | [], h => h
  | a :: x, h => by
    rcases h with h | ⟨_, h⟩
    · omega
    · exact lx_irr x h
theorem sorted_ext {L : List (List Nat)} (a : Nat) (h : L.Pairwise lx) : (ext L a).Pairwise lx := by
  unfold ext
  induction L with
  | nil => simp
  | cons c r ih =>
    rw [List.flatMap_cons, List.pairwise_append]
    obtain ⟨h1, h2⟩ := List.pairwise_cons.mp h
    refine ⟨?_, ih h2, ?_⟩
    · rw [List.pairwise_map]
      exact List.Pairwise.imp (fun h => lx_last c h) List.pairwise_lt_range
    · intro x hx y hy
      obtain ⟨i, _, rfl⟩ := List.mem_map.mp hx
      obtain ⟨d, hd, hy⟩ := List.mem_flatMap.mp hy
      obtain ⟨j, _, rfl⟩ := List.mem_map.mp hy
      exact lx_app (h1 d hd) _ _
theorem sorted_cells (box : List Nat) : (cells box).Pairwise lx := by
  suffices H : ∀ (r p : List Nat), (cells p).Pairwise lx → (cells (p ++ r)).Pairwise lx by
    have := H box [] (by simp [cells])
    simpa using this
  intro r
  induction r with
  | nil => intro p h; simpa using h
  | cons a r ih =>
    intro p h
    have := ih (p ++ [a]) (by rw [cells_snoc]; exact sorted_ext a h)
    simpa using this
theorem sorted_bars (m k : Nat) (box : List Nat) : (bars m k box).Pairwise lx := List.Pairwise.filter _ (sorted_cells box)
theorem eqv_nD (a b : Nat) : PyData.eqv (nD a) (nD b) = decide (a = b) := by
  show ((a : Int) == (b : Int)) = _
  by_cases h : a = b
  · subst h; simp
  · rw [decide_eq_false h]; exact beq_eq_false_iff_ne.mpr (by omega)
theorem eqvAll_nD : ∀ (x y : List Nat), PyData.eqvAll (x.map nD) (y.map nD) = decide (x = y)
  | [], [] => rfl
  | [], _ :: _ => rfl
  | _ :: _, [] => rfl
  | a :: x, b :: y => by
    show (PyData.eqv (nD a) (nD b) && PyData.eqvAll (x.map nD) (y.map nD)) = _
    rw [eqv_nD, eqvAll_nD x y]
    by_cases h : a = b <;> by_cases h' : x = y <;> simp [h, h']
theorem eqv_TN (x y : List Nat) : PyData.eqv (TN x) (TN y) = decide (x = y) := eqvAll_nD x y
theorem cmp_some (g : Int → Int → Bool) (z : Bool × Bool × Bool) : ∀ x y : List Nat, ∃ b, cmpDs g z (x.map nD) (y.map nD) = some b
  | [], [] => ⟨_, rfl⟩
  | [], _ :: _ => ⟨_, rfl⟩
  | _ :: _, [] => ⟨_, rfl⟩
  | a :: x, b :: y => by
    obtain ⟨t, e⟩ := cmp_some g z x y
    show ∃ b', ((cmpDs g z (x.map nD) (y.map nD)).bind fun rest => if PyData.eqv (nD a) (nD b) then some rest else cmpD g z (nD a) (nD b)) = some b'
    rw [e, Option.bind_some]
    split
    · exact ⟨_, rfl⟩
    · exact ⟨g a b, by rw [cmpD]⟩
theorem cmp_lx {g : Int → Int → Bool} {z : Bool × Bool × Bool} {t : Bool} (hg : ∀ a b : Nat, a < b → g a b = t) : ∀ {x y : List Nat}, lx x y → cmpDs g z (x.map nD) (y.map nD) = some t
  | a :: x, b :: y, h => by
    show ((cmpDs g z (x.map nD) (y.map nD)).bind fun rest => if PyData.eqv (nD a) (nD b) then some rest else cmpD g z (nD a) (nD b)) = some t
    rw [eqv_nD]
    rcases h with h | ⟨rfl, h⟩
    · obtain ⟨t', e⟩ := cmp_some g z x y
      rw [e, Option.bind_some, if_neg (by simp; omega), cmpD, hg a b h]
    · rw [cmp_lx hg h, Option.bind_some, if_pos (by simp)]
  | [], _, h => h.elim
  | _ :: _, [], h => h.elim
theorem cmp_xl {g : Int → Int → Bool} {z : Bool × Bool × Bool} {t : Bool} (hg : ∀ a b : Nat, a < b → g b a = t) : ∀ {x y : List Nat}, lx x y → cmpDs g z (y.map nD) (x.map nD) = some t
  | a :: x, b :: y, h => by
    show ((cmpDs g z (y.map nD) (x.map nD)).bind fun rest => if PyData.eqv (nD b) (nD a) then some rest else cmpD g z (nD b) (nD a)) = some t
    rw [eqv_nD]
    rcases h with h | ⟨rfl, h⟩
    · obtain ⟨t', e⟩ := cmp_some g z y x
      rw [e, Option.bind_some, if_neg (by simp; omega), cmpD, hg a b h]
    · rw [cmp_xl hg h, Option.bind_some, if_pos (by simp)]
  | [], _, h => h.elim
  | _ :: _, [], h => h.elim
theorem cmp_bar {g : Int → Int → Bool} {z : Bool × Bool × Bool} {t : Bool} {x y : List Nat} (k : Nat) (hne : x ≠ y) (h : cmpDs g z (x.map nD) (y.map nD) = some t) : cmpD g z (barD k x) (barD k y) = some t := by
  show cmpDs g z [TN x, nD k] [TN y, nD k] = _
  show ((cmpDs g z [nD k] [nD k]).bind fun rest => if PyData.eqv (TN x) (TN y) then some rest else cmpD g z (TN x) (TN y)) = some t
  obtain ⟨t', e⟩ := cmp_some g z [k] [k]
  change cmpDs g z [nD k] [nD k] = _ at e
  rw [e, Option.bind_some, eqv_TN, if_neg (by simpa using hne)]
  exact h
theorem lay_TN (x : List Nat) : PyData.canLayAll0 (x.map nD) = true ∧ PyData.depthAll (x.map nD) = 0 := by
  induction x with
  | nil => exact ⟨rfl, rfl⟩
  | cons a r ih =>
    refine ⟨?_, ?_⟩
    · show (PyData.canLay0 (nD a) && PyData.canLayAll0 (r.map nD)) = true
      rw [ih.1]; rfl
    · show max (PyData.depth (nD a)) (PyData.depthAll (r.map nD)) = 0
      rw [ih.2]; rfl
theorem shaped_bar (k : Nat) (x : List Nat) : SeqAt.shaped (barD k x) = true := by
  have h := lay_TN x
  unfold SeqAt.shaped
  have h1 : (barD k x).canLay0 = true := by
    show (PyData.canLayAll0 (x.map nD) && (PyData.canLay0 (nD k) && true)) = true
    rw [h.1]; rfl
  have h2 : (barD k x).depth = 2 := by
    show max (PyData.depthAll (x.map nD) + 1) (max (PyData.depth (nD k)) 0) + 1 = 2
    rw [h.2]; rfl
  rw [h1, h2]; rfl
theorem oLt_bar {x y : List Nat} (k : Nat) (h : lx x y) (t u : Tag) : oLtA (barD k x) t (barD k y) u = some (.bool true, .cl) := by
  show (if SeqAt.shaped (barD k x) && SeqAt.shaped (barD k y) then (cmpD _ _ (barD k x) (barD k y)).map fun k => (PyData.bool k, Tag.cl) else none) = _
  have hh := cmp_bar (g := fun a b => decide (a < b)) (z := (false, true, false)) (t := true) (x := x) (y := y) k (fun e => lx_irr x (by rw [← e] at h; exact h)) (cmp_lx (fun a b q => decide_eq_true (by omega)) h)
  rw [shaped_bar, shaped_bar, if_pos (show (true && true) = true from rfl), hh]
  rfl
theorem oLe_bar {x y : List Nat} (k : Nat) (h : lx x y) (t u : Tag) : oLeA (barD k y) t (barD k x) u = some (.bool false, .cl) := by
  show (if SeqAt.shaped (barD k y) && SeqAt.shaped (barD k x) then (cmpD _ _ (barD k y) (barD k x)).map fun k => (PyData.bool k, Tag.cl) else none) = _
  have hh := cmp_bar (g := fun a b => decide (a ≤ b)) (z := (true, true, false)) (t := false) (x := y) (y := x) k (fun e => lx_irr x (by rw [e] at h; exact h)) (cmp_xl (fun a b q => decide_eq_false (by omega)) h)
  rw [shaped_bar, shaped_bar, if_pos (show (true && true) = true from rfl), hh]
  rfl
end G86

namespace G86
open PySem L2 Ev

theorem zip_nD (c box : List Nat) : zipD (c.map nD) (box.map nD) = (c.zip box).map fun q => PyData.tuple [nD q.1, nD q.2] := by
  unfold zipD
  rw [List.zipWith_map, List.map_zip_eq_zipWith]
  rfl
theorem ok_zip {c box : List Nat} (h : ok c box) : ∀ q ∈ c.zip box, q.1 < q.2 := by
  intro q hq
  obtain ⟨i, hi, e⟩ := List.mem_iff_getElem.mp hq
  rw [List.getElem_zip] at e
  have h1 : i < c.length := by simp at hi; omega
  have h2 : i < box.length := by simp at hi; omega
  have := h.2 i h2
  rw [← e]
  simpa [List.getD_eq_getElem?_getD, h1, h2] using this
theorem chain_ok {ma mb : ED} {env : En} {S : SS} {a b : Nat} {t u : Tag} (h1 : ma env S = some (nD a, t, S)) (h2 : mb env S = some (nD b, u, S)) (ht : t.rd = true) (hu : u.rd = true) (h : a < b) : eChain oLeA oLtA (eC (.int 0)) ma mb env S = some (.bool true, .cl, S) := by
  unfold eChain
  show ((ma env S).bind _) = _
  rw [h1, Option.bind_some]
  show (if Tag.rd .cl && t.rd then (some (PyData.bool (decide ((0 : Int) ≤ (a : Int))), Tag.cl)).bind _ else none) = _
  rw [ht, if_pos (show (Tag.rd .cl && true) = true from rfl), decide_eq_true (by omega : (0 : Int) ≤ (a : Int)), Option.bind_some]
  show ((mb env S).bind _) = _
  rw [h2, Option.bind_some]
  show (if u.rd then (some (PyData.bool (decide ((a : Int) < (b : Int))), Tag.cl)).map _ else none) = _
  rw [hu, if_pos rfl, decide_eq_true (by omega : (a : Int) < (b : Int))]
  rfl
theorem bools_yes {α : Type} : ∀ l : List α, boolsOf (l.map fun _ => PyData.bool true) = some (l.map fun _ => true)
  | [] => rfl
  | a :: r => by
    show (boolsOf (r.map fun _ => PyData.bool true)).map _ = _
    rw [bools_yes r]; rfl
theorem fAll_yes {α : Type} (l : List α) (t : Tag) : fAll [(.list (l.map fun _ => PyData.bool true), t)] = some (.bool true, .cl) := by
  show (boolsOf (l.map fun _ => PyData.bool true)).map _ = _
  rw [bools_yes]
  show some (PyData.bool ((l.map fun _ => true).all id), Tag.cl) = _
  simp
theorem fLen_TN (c : List Nat) (t : Tag) : fLen [(TN c, t)] = some (nD c.length, .cl) := by
  show some (PyData.int ((c.map nD).length : Nat), Tag.cl) = _
  rw [List.length_map]
theorem v_is_box_cell {box c : List Nat} (hb : Bx box) (hd : box.length ≤ 4) (h : ok c box) (S : SS) : runF 4 d_is_box_cell [some (TN box), some (TN c)] S = some (.bool true, .cl, S) := by
  refine runF_rt (env := [.cl (TN box), .cl (TN c), .un, .un]) rfl ?_
  refine (sSeq_nx (s := S) (e := [.cl (TN box), .cl (TN c), .un, .un]) ((sIf_f (s := S) ((bOr_f (s := S) rfl).trans (bT_at (eBin_at (s := S) (s' := S) (eCall_at (r := [(TN c, .cl)]) rfl rfl (fLen_TN c .cl)) (eCall_at (r := [(TN box, .cl)]) rfl rfl (fLen_TN box .cl)) rfl ((oNe_nat _ _ _ _).trans (by rw [h.1]; simp)))))).trans rfl)).trans ?_
  refine sRet_cl (eCall_at (q := (.bool true, .cl)) (r := [(.list ((c.zip box).map fun _ => PyData.bool true), .fr)]) (dCons_at (s := S) (eLc_yes (S' := S) (l := c.zip box) (f := fun q => PyData.tuple [nD q.1, nD q.2]) ?_ rfl (fun q hq => ⟨[.cl (TN box), .cl (TN c), .cl (nD q.1), .cl (nD q.2)], rfl, .cl, rfl, ?_⟩) ?_) rfl) rfl (fAll_yes _ _))
  · show (zipSD (TN c) (TN box)).map (fun ds => (ds, S)) = _
    unfold zipSD
    show (if (c.map nD).length = (box.map nD).length then some (zipD (c.map nD) (box.map nD)) else none).map (fun ds => (ds, S)) = _
    rw [if_pos (by simp [h.1]), zip_nD]; rfl
  · have : eAnd (eFn (runF 1 d_is_number) (dCons (eVar 2) (dNil))) (eChain oLeA oLtA (eC (.int (0))) (eVar 2) (eVar 3)) [.cl (TN box), .cl (TN c), .cl (nD q.1), .cl (nD q.2)] S = eChain oLeA oLtA (eC (.int (0))) (eVar 2) (eVar 3) [.cl (TN box), .cl (TN c), .cl (nD q.1), .cl (nD q.2)] S := rfl
    rw [this]
    exact chain_ok (a := q.1) (b := q.2) (t := .cl) (u := .cl) rfl rfl rfl rfl (ok_zip h q hq)
  · simp; omega
theorem v_is_box_bar {box c : List Nat} {k : Nat} (hb : Bx box) (hd : box.length ≤ 4) (h : ok c box) (hk : k < box.length) (S : SS) : runF 2 d_is_box_bar [some (TN box), some (barD k c)] S = some (.bool true, .cl, S) := by
  refine runF_rt (env := [.cl (TN box), .cl (barD k c)]) rfl ?_
  have hcell : bNot (bTru (eFn (runF 4 d_is_box_cell) (dCons (eVar 0) (dCons (eBin oIxA (eVar 1) (eC (.int (0)))) (dNil))))) [.cl (TN box), .cl (barD k c)] S = some (false, S) := by
    refine bNot_at (b := true) ?_
    unfold bTru
    rw [eFn_at (r := [(TN box, .cl), (TN c, .cl)]) rfl rfl (v_is_box_cell hb hd h S)]
    rfl
  refine (sSeq_nx (s := S) (e := [.cl (TN box), .cl (barD k c)]) ((sIf_f (s := S) ((bOr_f (s := S) rfl).trans ((bOr_f (s := S) rfl).trans hcell))).trans rfl)).trans ?_
  refine sRet_cl ?_
  show eChain oLeA oLtA (eC (.int (0))) (eBin oIxA (eVar 1) (eC (.int (1)))) (eCall fLen (dCons (eVar 0) (dNil))) [.cl (TN box), .cl (barD k c)] S = _
  exact chain_ok (a := k) (b := box.length) (t := .cl) (u := .cl) rfl (eCall_at (r := [(TN box, .cl)]) rfl rfl (fLen_TN box .cl)) rfl rfl hk
theorem v_law_is_cell {n : Nat} {c : List Nat} (hn : c.length = n) (hd : n ≤ 4) (S : SS) : runF 3 d__law_is_cell [some (TN c), some (nD n)] S = some (.bool true, .cl, S) := by
  refine runF_rt (env := [.cl (TN c), .cl (nD n), .un]) rfl ?_
  refine sRet_cl ?_
  show eAnd (eBin oEq (eCall fLen (dCons (eVar 0) (dNil))) (eVar 1)) _ [.cl (TN c), .cl (nD n), .un] S = _
  refine (eAnd_t (s := S) ((eBin_at (s := S) (s' := S) (eCall_at (r := [(TN c, .cl)]) rfl rfl (fLen_TN c .cl)) rfl rfl (oEq_nat c.length n _ .cl)).trans (by rw [hn, beq_self_eq_true]))).trans ?_
  refine eBin_at (s := S) (s' := S) (d := .list []) (t := .fr) (e := .list []) (eLc_no (S' := S) (l := c) (f := nD) rfl rfl (fun i _ => ⟨_, rfl, rfl⟩) (by omega)) rfl rfl rfl
theorem v_law_is_box_bar {box c : List Nat} {k : Nat} (hb : Bx box) (hd : box.length ≤ 4) (h : ok c box) (hk : k < box.length) (S : SS) : runF 4 d__law_is_box_bar [some (TN box), some (barD k c)] S = some (.bool true, .cl, S) := by
  refine runF_rt (env := [.cl (TN box), .cl (barD k c), .un, .un]) rfl ?_
  have hcell : bNot (bTru (eFn (runF 3 d__law_is_cell) (dCons (eBin oIxA (eVar 1) (eC (.int (0)))) (dCons (eCall fLen (dCons (eVar 0) (dNil))) (dNil))))) [.cl (TN box), .cl (barD k c), .un, .un] S = some (false, S) := by
    refine bNot_at (b := true) ?_
    unfold bTru
    rw [eFn_at (r := [(TN c, .cl), (nD box.length, .cl)]) (dCons_at (s := S) rfl (dCons_at (s := S) (eCall_at (r := [(TN box, .cl)]) rfl rfl (fLen_TN box .cl)) rfl)) rfl (v_law_is_cell h.1 hd S)]
    rfl
  refine (sSeq_nx (s := S) (e := [.cl (TN box), .cl (barD k c), .un, .un]) ((sIf_f (s := S) ((bOr_f (s := S) rfl).trans ((bOr_f (s := S) rfl).trans hcell))).trans rfl)).trans ?_
  refine (sSeq_nx (s := S) (e := [.cl (TN box), .cl (barD k c), .un, .un]) ((sIf_f (s := S) (bT_at (eBin_at (s := S) (s' := S) (d := .list []) (t := .fr) (e := .list []) (eLc_no (S' := S) (l := c.zip box) (f := fun q => PyData.tuple [nD q.1, nD q.2]) ?_ rfl (fun q hq => ⟨[.cl (TN box), .cl (barD k c), .cl (nD q.1), .cl (nD q.2)], rfl, ?_⟩) ?_) rfl rfl rfl))).trans rfl)).trans ?_
  · show some (zipD (c.map nD) (box.map nD), S) = _
    rw [zip_nD]
  · exact bNot_at (b := true) (bT_at (chain_ok (a := q.1) (b := q.2) (t := .cl) (u := .cl) rfl rfl rfl rfl (ok_zip h q hq)))
  · simp; omega
  refine sRet_cl ?_
  show eChain oLeA oLtA (eC (.int (0))) (eBin oIxA (eVar 1) (eC (.int (1)))) (eCall fLen (dCons (eVar 0) (dNil))) [.cl (TN box), .cl (barD k c), .un, .un] S = _
  exact chain_ok (a := k) (b := box.length) (t := .cl) (u := .cl) rfl (eCall_at (r := [(TN box, .cl)]) rfl rfl (fLen_TN box .cl)) rfl rfl hk
end G86

namespace G86
open PySem L2 Ev

/-! ### the cells of a bar -/
def barc (c : List Nat) (k i : Nat) : List Nat := c.set k (c.getD k 0 + i)
def barcs (m k : Nat) (c : List Nat) : List (List Nat) := (List.range m).map (barc c k)
theorem getD_set {c : List Nat} {k j v : Nat} (hk : k < c.length) : (c.set k v).getD j 0 = if k = j then v else c.getD j 0 := by
  rw [List.getD_eq_getElem?_getD, List.getD_eq_getElem?_getD, List.getElem?_set]
  split
  · rename_i h; subst h; first | rfl | (rw [if_pos hk]; rfl)
  · rfl
theorem ext_getD {c d : List Nat} (hl : c.length = d.length) (h : ∀ j, j < c.length → c.getD j 0 = d.getD j 0) : c = d := by
  apply List.ext_getElem hl
  intro j h1 h2
  have := h j h1
  simpa [List.getD_eq_getElem?_getD, h1, h2] using this
theorem barc_inj {c d : List Nat} {k m i j : Nat} (hk : k < c.length) (hl : c.length = d.length) (hc : c.getD k 0 % m = 0) (hd : d.getD k 0 % m = 0) (hi : i < m) (hj : j < m) (e : barc c k i = barc d k j) : c = d ∧ i = j := by
  have hg : ∀ x, (barc c k i).getD x 0 = (barc d k j).getD x 0 := fun x => by rw [e]
  unfold barc at hg
  have h1 := hg k
  rw [getD_set hk, getD_set (by omega), if_pos rfl, if_pos rfl] at h1
  have h2 : (c.getD k 0 + i) % m = (d.getD k 0 + j) % m := by rw [h1]
  rw [Nat.add_mod, hc, Nat.add_mod (d.getD k 0), hd, Nat.zero_add, Nat.zero_add, Nat.mod_mod, Nat.mod_mod, Nat.mod_eq_of_lt hi, Nat.mod_eq_of_lt hj] at h2
  refine ⟨ext_getD hl fun x hx => ?_, h2⟩
  by_cases q : k = x
  · subst q; omega
  · have h3 := hg x
    rwa [getD_set hk, getD_set (by omega), if_neg q, if_neg q] at h3
structure BarOk (m k : Nat) (box : List Nat) : Prop where
  hk : k < box.length
  hm : 1 ≤ m
  hs : box.getD k 0 % m = 0
theorem mem_bars {m k : Nat} {box c : List Nat} : c ∈ bars m k box ↔ ok c box ∧ c.getD k 0 % m = 0 := by
  unfold bars
  rw [List.mem_filter, mem_cells]
  simp
theorem bar_room {m k : Nat} {box c : List Nat} (h : BarOk m k box) (hc : c ∈ bars m k box) : c.getD k 0 + m ≤ box.getD k 0 := by
  obtain ⟨h1, h2⟩ := mem_bars.mp hc
  have h3 := h1.2 k h.hk
  have h4 := h.hs
  obtain ⟨a, ha⟩ := Nat.dvd_of_mod_eq_zero h2
  obtain ⟨b, hb⟩ := Nat.dvd_of_mod_eq_zero h4
  rw [ha, hb] at h3 ⊢
  have : a < b := Nat.lt_of_mul_lt_mul_left h3
  have : m * (a + 1) ≤ m * b := Nat.mul_le_mul_left _ this
  rw [Nat.mul_add, Nat.mul_one] at this
  exact this
theorem barc_ok {m k i : Nat} {box c : List Nat} (h : BarOk m k box) (hc : c ∈ bars m k box) (hi : i < m) : ok (barc c k i) box := by
  have h0 := bar_room h hc
  obtain ⟨h1, h2⟩ := mem_bars.mp hc
  have hk := h.hk
  refine ⟨by unfold barc; rw [List.length_set]; exact h1.1, fun j hj => ?_⟩
  unfold barc
  rw [getD_set (by rw [h1.1]; exact hk)]
  split
  · rename_i e; subst e; omega
  · exact h1.2 j hj
def covs (m k : Nat) (L : List (List Nat)) : List (List Nat) := L.flatMap (barcs m k)
theorem covs_nodup {m k : Nat} {box : List Nat} (h : BarOk m k box) : (covs m k (bars m k box)).Nodup := by
  unfold covs
  refine List.pairwise_flatMap.mpr ⟨fun c hc => ?_, ?_⟩
  · unfold barcs
    rw [List.pairwise_map]
    refine List.Pairwise.imp_of_mem (fun {i j} hi hj h' e => ?_) List.nodup_range
    have h1 := mem_bars.mp hc
    exact h' (barc_inj (by rw [h1.1.1]; exact h.hk) rfl h1.2 h1.2 (List.mem_range.mp hi) (List.mem_range.mp hj) e).2
  · refine List.Pairwise.imp_of_mem (fun {c d} hc hd h' => ?_) (sorted_bars m k box)
    intro x hx y hy e
    subst e
    obtain ⟨i, hi, e1⟩ := List.mem_map.mp hx
    obtain ⟨j, hj, e2⟩ := List.mem_map.mp hy
    have h1 := mem_bars.mp hc
    have h2 := mem_bars.mp hd
    have := (barc_inj (by rw [h1.1.1]; exact h.hk) (by rw [h1.1.1, h2.1.1]) h1.2 h2.2 (List.mem_range.mp hi) (List.mem_range.mp hj) (e1.trans e2.symm)).1
    subst this
    exact lx_irr _ h'
theorem covs_all {m k : Nat} {box c : List Nat} (h : BarOk m k box) (hc : ok c box) : c ∈ covs m k (bars m k box) := by
  have hk : k < c.length := by rw [hc.1]; exact h.hk
  have hm := h.hm
  have hdm := Nat.div_add_mod (c.getD k 0) m
  refine List.mem_flatMap.mpr ⟨c.set k (m * (c.getD k 0 / m)), mem_bars.mpr ⟨⟨by rw [List.length_set]; exact hc.1, fun j hj => ?_⟩, ?_⟩, List.mem_map.mpr ⟨c.getD k 0 % m, List.mem_range.mpr (Nat.mod_lt _ (by omega)), ?_⟩⟩
  · rw [getD_set hk]
    have := hc.2 j hj
    split
    · rename_i e; subst e; omega
    · exact this
  · rw [getD_set hk, if_pos rfl, Nat.mul_mod_right]
  · unfold barc
    rw [getD_set hk, if_pos rfl, List.set_set, hdm]
    apply ext_getD (by rw [List.length_set])
    intro j hj
    rw [getD_set hk]
    split
    · rename_i e; rw [e]
    · rfl
theorem barc_split {c : List Nat} {k i : Nat} (hk : k < c.length) : c.take k ++ (c.getD k 0 + i) :: c.drop (k + 1) = barc c k i := by
  unfold barc
  rw [List.set_eq_take_append_cons_drop, if_pos hk]
theorem sl_lo {m : ED} {h : ED} {env : En} {S s s' : SS} {c : List Nat} {k : Nat} {t u : Tag} (h1 : m env S = some (TN c, t, s)) (h2 : pSome h env s = some (some (k : Int), s')) (ht : t.rd = true) : eSl m pNone (pSome h) env S = some (TN (c.take k), .cl, s') := by
  unfold eSl
  rw [h1, Option.bind_some]
  show (pSome h env s).bind _ = _
  rw [h2, Option.bind_some, if_pos ht]
  show some (PyData.tuple (cutD (c.map nD) none (some (k : Int))), Tag.cl, s') = _
  unfold cutD TN
  rw [HT.sIx_nat, HT.sIx_none, List.length_map]
  congr 3
  rw [List.drop_zero, List.map_take, Nat.sub_zero]
  by_cases q : k ≤ c.length
  · rw [Nat.min_eq_left q]
  · rw [Nat.min_eq_right (by omega), List.take_of_length_le (by simp), List.take_of_length_le (by simp; omega)]
theorem sl_hi {m : ED} {h : ED} {env : En} {S s s' : SS} {c : List Nat} {k : Nat} {t u : Tag} (h1 : m env S = some (TN c, t, s)) (h2 : pSome h env s = some (some (k : Int), s')) (ht : t.rd = true) : eSl m (pSome h) pNone env S = some (TN (c.drop k), .cl, s') := by
  unfold eSl
  rw [h1, Option.bind_some]
  show (pSome h env s).bind _ = _
  rw [h2, Option.bind_some]
  show (if t.rd then some (PyData.tuple (cutD (c.map nD) (some (k : Int)) none), Tag.cl, s') else none) = _
  rw [if_pos ht]
  unfold cutD TN
  rw [HT.sIx_nat, HT.sIx_none, List.length_map]
  congr 3
  rw [List.map_drop]
  by_cases q : k ≤ c.length
  · rw [Nat.min_eq_left q, List.take_of_length_le (by simp)]
  · rw [Nat.min_eq_right (by omega), List.take_of_length_le (by simp), List.drop_of_length_le (by simp), List.drop_of_length_le (by simp; omega)]
theorem add1 {ma : ED} {env : En} {S s : SS} {k : Nat} {t : Tag} (h : ma env S = some (nD k, t, s)) (ht : t.rd = true) : pSome (eBin oAdd ma (eC (.int 1))) env S = some (some ((k + 1 : Nat) : Int), s) := by
  unfold pSome
  rw [eBin_at (s' := s) (e := .int 1) (u := .cl) h rfl (by rw [ht]; rfl) (f := nD (k + 1)) (v := .cl) rfl]
  rfl
theorem all_cl (l : List PyData) : (l.map fun d => (d, Tag.cl)).all (fun x => x.2.cln) = true := List.all_eq_true.mpr fun x hx => by obtain ⟨d, _, rfl⟩ := List.mem_map.mp hx; rfl
theorem v_bar_cells {c : List Nat} {k m : Nat} (hk : k < c.length) (hl : c.length ≤ 4) (hm : m ≤ 1000) (S : SS) : runF 4 d_bar_cells [some (TN c), some (nD k), some (nD m)] S = some (.list ((barcs m k c).map TN), .fr, S) := by
  refine runF_rt (env := [.cl (TN c), .cl (nD k), .cl (nD m), .un]) rfl ?_
  refine sRet_fr ((eLc_yes (l := List.range m) (f := nD) (S' := S) (e := fun i => TN (barc c k i)) (ran1_at (n := m) (t := .cl) rfl rfl (by omega)) rfl (fun i _ => ⟨[.cl (TN c), .cl (nD k), .cl (nD m), .cl (nD i)], rfl, .cl, rfl, ?_⟩) (by simp; omega)).trans ?_)
  · refine (eTup_at (l := (c.take k).map nD ++ nD (c.getD k 0 + i) :: (c.drop (k + 1)).map nD) (dStar_tup (sl_lo (u := .cl) (c := c) (t := .cl) rfl rfl rfl) rfl (dCons_at (eBin_at (s := S) (s' := S) (eBin_at (s := S) (s' := S) rfl rfl rfl (oIxA_TN c k hk .cl .cl)) rfl rfl (f := nD (c.getD k 0 + i)) (v := .cl) rfl) (dStar_tup (sl_hi (u := .cl) (c := c) (t := .cl) rfl (add1 (k := k) (t := .cl) rfl rfl) rfl) rfl rfl))) ?_ ?_ ?_).trans ?_
    · rw [List.all_append, all_cl, Bool.true_and, List.all_cons, List.all_append, all_cl]; rfl
    · simp; omega
    · simp [Function.comp_def]
    · rw [← barc_split hk]; unfold TN; simp
  · unfold barcs; rw [List.map_map]; rfl
theorem v_law_bar {c : List Nat} {k m : Nat} (hk : k < c.length) (hl : c.length ≤ 4) (hm : m ≤ 1000) (S : SS) : runF 5 d__law_box_bar [some (barD k c), some (nD m)] S = some (.list ((barcs m k c).map TN), .fr, S) := by
  refine runF_rt (env := [.cl (barD k c), .cl (nD m), .un, .un, .un]) rfl ?_
  refine (sSeq_nx (s := S) (e := [.cl (barD k c), .cl (nD m), .cl (TN c), .cl (nD k), .un]) rfl).trans ?_
  refine sRet_fr ((eLc_yes (l := List.range m) (f := nD) (S' := S) (e := fun i => TN (barc c k i)) (ran1_at (n := m) (t := .cl) rfl rfl (by omega)) rfl (fun i _ => ⟨[.cl (barD k c), .cl (nD m), .cl (TN c), .cl (nD k), .cl (nD i)], rfl, .cl, rfl, ?_⟩) (by simp; omega)).trans ?_)
  · refine eBin_at (s := S) (s' := S) (d := TN (c.take k ++ [c.getD k 0 + i])) (t := .cl) (e := TN (c.drop (k + 1))) (u := .cl) (eBin_at (s := S) (s' := S) (d := TN (c.take k)) (t := .cl) (e := TN [c.getD k 0 + i]) (u := .cl) (sl_lo (u := .cl) (c := c) (t := .cl) rfl rfl rfl) (eTup_at (r := [(nD (c.getD k 0 + i), .cl)]) (dCons_at (s := S) (eBin_at (s := S) (s' := S) (eBin_at (s := S) (s' := S) rfl rfl rfl (oIxA_TN c k hk .cl .cl)) rfl rfl (f := nD (c.getD k 0 + i)) (v := .cl) rfl) rfl) rfl (by simp) rfl) rfl ?_) (sl_hi (u := .cl) (c := c) (t := .cl) rfl (add1 (k := k) (t := .cl) rfl rfl) rfl) rfl ?_
    · show (if ((c.take k).map nD).length + ([c.getD k 0 + i].map nD).length ≤ 16777216 then some (PyData.tuple ((c.take k).map nD ++ [c.getD k 0 + i].map nD), Tag.cl) else none) = _
      rw [if_pos (by simp; omega)]
      unfold TN; rw [List.map_append]
    · show (if ((c.take k ++ [c.getD k 0 + i]).map nD).length + ((c.drop (k + 1)).map nD).length ≤ 16777216 then some (PyData.tuple ((c.take k ++ [c.getD k 0 + i]).map nD ++ (c.drop (k + 1)).map nD), Tag.cl) else none) = _
      rw [if_pos (by simp; omega), ← List.map_append, List.append_assoc]
      show some (TN (c.take k ++ (c.getD k 0 + i) :: c.drop (k + 1)), Tag.cl) = _
      rw [barc_split hk]
  · unfold barcs; rw [List.map_map]; rfl
end G86

namespace G86
open PySem L2 Ev

/-! ### a dict whose keys are cells -/
def kN (c : List Nat) : NestedKey := .tup (c.map fun (n : Nat) => NestedKey.num (n : Int))
theorem nkOs_nD : ∀ c : List Nat, nkOs (c.map nD) = some (c.map fun (n : Nat) => NestedKey.num (n : Int))
  | [] => rfl
  | a :: r => by
    show (nkO (nD a)).bind (fun k => (nkOs (r.map nD)).map (k :: ·)) = _
    rw [nkOs_nD r]; rfl
theorem nkO_TN (c : List Nat) : nkO (TN c) = some (kN c) := by
  show (nkOs (c.map nD)).map NestedKey.tup = _
  rw [nkOs_nD]; rfl
theorem kN_inj {c d : List Nat} (h : kN c = kN d) : c = d := by
  unfold kN at h
  injection h with h
  have : ∀ (c d : List Nat), (c.map fun (n : Nat) => NestedKey.num (n : Int)) = (d.map fun (n : Nat) => NestedKey.num (n : Int)) → c = d := by
    intro c
    induction c with
    | nil => intro d h; cases d with
      | nil => rfl
      | cons a r => simp at h
    | cons a r ih => intro d h; cases d with
      | nil => simp at h
      | cons b s =>
        simp only [List.map_cons, List.cons.injEq] at h
        obtain ⟨h1, h2⟩ := h
        injection h1 with h1
        rw [ih s h2, Int.ofNat.inj h1]
  exact this c d h
theorem kN_data (c : List Nat) : (kN c).data = TN c := nkO_data (nkO_TN c)
theorem depths (c : List Nat) : keyOk (kN c) = true := by
  show decide ((kN c).depth ≤ 8) = true
  refine decide_eq_true ?_
  have : NestedKey.depthAll (c.map fun (n : Nat) => NestedKey.num (n : Int)) = 0 := by
    induction c with
    | nil => rfl
    | cons a r ih => rw [List.map_cons, NestedKey.depthAll, ih]; rfl
  unfold kN
  simp only [NestedKey.depth, this]
  omega
def dl (L : List (List Nat)) : List (PyData × PyData) := L.map fun c => (TN c, .bool true)
theorem dl_kind (L : List (List Nat)) (c : List Nat) : kindOk (dl L) (kN c) = true := by
  cases L with
  | nil => rfl
  | cons d r =>
    unfold kindOk dl
    rw [List.map_cons]
    show (match nkO (TN d) with | some i => (kK i).isSome == (kK (kN c)).isSome | none => false) = true
    rw [nkO_TN]; rfl
theorem dl_at (L : List (List Nat)) (c : List Nat) : atD (dl L) (kN c) = if c ∈ L then some (.bool true) else none := by
  unfold atD dl
  induction L with
  | nil => rfl
  | cons d r ih =>
    rw [List.map_cons, List.find?_cons]
    by_cases h : d = c
    · subst h
      rw [decide_eq_true (nkO_TN d)]
      simp
    · have : decide (nkO (TN d, PyData.bool true).1 = some (kN c)) = false := decide_eq_false (by rw [nkO_TN]; intro e; injection e with e; exact h (kN_inj e))
      rw [this]
      show Option.map _ (List.find? _ _) = _
      rw [ih]
      have : (c ∈ d :: r) ↔ c ∈ r := by simp [Ne.symm h]
      simp only [this]
theorem look_dl (L : List (List Nat)) (c : List Nat) : lookD (dl L) (TN c) = some (if c ∈ L then some (.bool true) else none) := by
  unfold lookD
  rw [nkO_TN, Option.bind_some, depths, dl_kind, if_pos (show (true && true) = true from rfl), dl_at]
theorem dl_put (L : List (List Nat)) (c : List Nat) : putD (dl L) (kN c) (.bool true) = dl (if c ∈ L then L else L ++ [c]) := by
  unfold putD
  rw [dl_at, kN_data]
  by_cases h : c ∈ L
  · rw [if_pos h, if_pos h, if_pos (show (some (PyData.bool true)).isSome = true from rfl)]
    unfold dl
    rw [List.map_map]
    apply List.map_congr_left
    intro d _
    show (if nkO (TN d) = some (kN c) then (TN d, PyData.bool true) else (TN d, PyData.bool true)) = _
    rw [ite_self]
  · rw [if_neg h, if_neg h, if_neg (by simp)]
    unfold dl
    rw [List.map_append]; rfl
theorem oIn_dl (L : List (List Nat)) (c : List Nat) (t u : Tag) : oInA (TN c) t (.dict (dl L)) u = some (.bool (decide (c ∈ L)), .cl) := by
  show (lookD (dl L) (TN c)).map (fun o => (PyData.bool o.isSome, Tag.cl)) = _
  rw [look_dl]
  by_cases h : c ∈ L <;> simp [h]
theorem oNotIn_dl (L : List (List Nat)) (c : List Nat) (t u : Tag) : oNotInA (TN c) t (.dict (dl L)) u = some (.bool (!decide (c ∈ L)), .cl) := by
  show (lookD (dl L) (TN c)).map (fun o => (PyData.bool (!o.isSome), Tag.cl)) = _
  rw [look_dl]
  by_cases h : c ∈ L <;> simp [h]
theorem setA_dl {i : Nat} {mk : ED} {env : En} {S : SS} {L : List (List Nat)} {c : List Nat} {t : Tag} (h : env[i]? = some (.ow (.dict (dl L)))) (hk : mk env S = some (TN c, t, S)) (ht : t.cln = true) (hl : L.length < 16777216) :
    sSetA i mk (eC (.bool true)) env S = some (.nx (env.set i (.ow (.dict (dl (if c ∈ L then L else L ++ [c]))))) S) := by
  unfold sSetA
  show (mk env S).bind _ = _
  rw [hk, Option.bind_some, h]
  show (if Tag.cln .cl && t.cln && decide ((dl L).length < 16777216) then (nkO (TN c)).bind fun k => if keyOk k && kindOk (dl L) k then some (Out.nx (env.set i (.ow (.dict (putD (dl L) k (.bool true))))) S) else none else none) = _
  rw [ht, if_pos (show (Tag.cln .cl && true && decide ((dl L).length < 16777216)) = true from (by rw [decide_eq_true (by unfold dl; simpa using hl)]; rfl)), nkO_TN, Option.bind_some, depths, dl_kind, if_pos (show (true && true) = true from rfl), dl_put]
/-- a dict made of pairs -/
theorem pairs_dl : ∀ L : List (List Nat), pairsOf (L.map fun c => PyData.tuple [TN c, .bool true]) = some (L.map fun c => (kN c, PyData.bool true))
  | [] => rfl
  | c :: r => by
    show (nkO (TN c)).bind (fun kk => if keyOk kk then (pairsOf (r.map fun c => PyData.tuple [TN c, .bool true])).map ((kk, PyData.bool true) :: ·) else none) = _
    rw [nkO_TN, Option.bind_some, depths, if_pos rfl, pairs_dl r]; rfl
theorem fold_dl : ∀ (L A : List (List Nat)), (A ++ L).Nodup → (L.map fun c => (kN c, PyData.bool true)).foldl (fun acc p => putD acc p.1 p.2) (dl A) = dl (A ++ L)
  | [], A, _ => by simp
  | c :: r, A, h => by
    rw [List.map_cons, List.foldl_cons]
    show (r.map fun c => (kN c, PyData.bool true)).foldl _ (putD (dl A) (kN c) (.bool true)) = _
    have hc : c ∉ A := by
      intro hc
      exact (List.pairwise_append.mp h).2.2 c hc c List.mem_cons_self rfl
    rw [dl_put, if_neg hc, fold_dl r (A ++ [c]) (by simpa using h)]
    simp
theorem fDict_dl {L : List (List Nat)} (h : L.Nodup) (hl : L.length ≤ 16777216) (t : Tag) (ht : t.rd = true) : fDict [(.list (L.map fun c => PyData.tuple [TN c, .bool true]), t)] = some (.dict (dl L), .fr) := by
  show (if t.rd then (pairsOf (L.map fun c => PyData.tuple [TN c, .bool true])).bind _ else none) = _
  rw [ht, if_pos rfl, pairs_dl, Option.bind_some, if_pos]
  · unfold foldD
    have := fold_dl L [] (by simpa using h)
    change ((L.map fun c => (kN c, PyData.bool true)).foldl (fun acc p => putD acc p.1 p.2) []) = _ at this
    rw [this]; rfl
  · rw [Bool.and_eq_true]
    refine ⟨List.all_eq_true.mpr fun x hx => ?_, decide_eq_true (by simpa using hl)⟩
    obtain ⟨c, _, rfl⟩ := List.mem_map.mp hx
    rfl
theorem cells_nodup (box : List Nat) : (cells box).Nodup := List.Pairwise.imp (fun {a b} (h : lx a b) (e : a = b) => lx_irr b (by rw [e] at h; exact h)) (sorted_cells box)
end G86

namespace G86
open PySem L2 Ev

def BT (m k : Nat) (box : List Nat) : PyData := .tuple ((bars m k box).map (barD k))
theorem ix_map {α : Type} {F : α → PyData} {L : List α} {i : Int} {j : Nat} {x : α} (hi : i = (j : Int)) (h : L[j]? = some x) (t u : Tag) : oIxA (.tuple (L.map F)) t (.int i) u = some (F x, .cl) := by
  subst hi
  show (atI (L.map F) (j : Int)).map (fun d => (d, Tag.cl)) = _
  rw [atI_at, List.getElem?_map, h]; rfl
theorem ran2_at {n : Nat} {ms : EDs} {env : En} {S s : SS} {t u : Tag} (h : ms env S = some ([(.int 1, t), (nD n, u)], s)) (ht : t.rd = true) (hu : u.rd = true) (hn : n ≤ 1000000) : iRan2 ms env S = some ((List.range (n - 1)).map (fun (k : Nat) => PyData.int (1 + (k : Int))), s) := by
  unfold iRan2
  rw [h]
  show (if t.rd && u.rd && decide ((n : Int) < 4611686018427387904) && decide (-4611686018427387904 ≤ (n : Int)) && decide ((1 : Int) < 4611686018427387904) && decide (-4611686018427387904 ≤ (1 : Int)) then some ((List.range ((n : Int) - 1).toNat).map fun k => PyData.int (1 + ((k : Nat) : Int)), s) else none) = _
  rw [ht, hu, decide_eq_true (by omega : (n : Int) < 4611686018427387904), decide_eq_true (by omega : -4611686018427387904 ≤ (n : Int)), show ((n : Int) - 1).toNat = n - 1 from by omega]
  rfl
theorem fLen_tup {α : Type} (F : α → PyData) (L : List α) (t : Tag) : fLen [(.tuple (L.map F), t)] = some (nD L.length, .cl) := by
  show some (PyData.int ((L.map F).length : Nat), Tag.cl) = _
  rw [List.length_map]
theorem bars_le {m k : Nat} {box : List Nat} (hb : Bx box) : (bars m k box).length ≤ 1500 := Nat.le_trans (List.length_filter_le _ _) (by rw [cells_length]; exact hb.vol)
theorem bars_lx {m k : Nat} {box : List Nat} {a : Nat} (h : a + 1 < (bars m k box).length) : lx ((bars m k box)[a]'(by omega)) ((bars m k box)[a + 1]) := (List.pairwise_iff_getElem.mp (sorted_bars m k box)) a (a + 1) (by omega) h (by omega)
theorem range_at {n : Nat} {p r : List Nat} {a : Nat} (e : List.range n = p ++ a :: r) : a < n := List.mem_range.mp (by rw [e]; simp)
theorem enumD_bar {k : Nat} (L : List (List Nat)) : enumD (L.map (barD k)) = L.zipIdx.map fun q => PyData.tuple [nD q.2, barD k q.1] := by
  unfold enumD
  rw [List.zipIdx_map, List.map_map]
  rfl
theorem zip_split {α : Type} {B : List α} {p r : List (α × Nat)} {a : α × Nat} (e : B.zipIdx = p ++ a :: r) : B = p.map (·.1) ++ a.1 :: r.map (·.1) := by
  have := congrArg (List.map Prod.fst) e
  rw [List.zipIdx_map_fst] at this
  simpa using this
theorem covs_app (m k : Nat) (A B : List (List Nat)) : covs m k (A ++ B) = covs m k A ++ covs m k B := by unfold covs; rw [List.flatMap_append]
theorem covs_one (m k : Nat) (c : List Nat) : covs m k [c] = barcs m k c := by unfold covs; simp
theorem covs_length (m k : Nat) : ∀ L : List (List Nat), (covs m k L).length = L.length * m
  | [] => by simp [covs]
  | c :: r => by
    have := covs_length m k r
    unfold covs at this ⊢
    rw [List.flatMap_cons, List.length_append, this]
    unfold barcs
    rw [List.length_map, List.length_range, List.length_cons, Nat.add_mul, Nat.one_mul, Nat.add_comm]
theorem oGt_nat (a b : Nat) (t u : Tag) : oGtA (nD a) t (nD b) u = some (.bool (decide ((b : Int) < (a : Int))), .cl) := rfl
def Cl (s : Sl) : Prop := s = .un ∨ ∃ d, s = .cl d

theorem v_bars_fault {box : List Nat} {m k : Nat} (hb : Bx box) (hd : box.length ≤ 4) (h : BarOk m k box) (hm : m ≤ 1000) (S : SS) : runF 9 d_bars_fault [some (TN box), some (nD m), some (BT m k box)] S = some (.none, .cl, S) := by
  have hB := bars_le (m := m) (k := k) hb
  have hlen : ∀ c ∈ bars m k box, c.length = box.length := fun c hc => (mem_bars.mp hc).1.1
  have hk := h.hk
  refine runF_rt (env := [.cl (TN box), .cl (nD m), .cl (BT m k box), .un, .un, .un, .un, .un, .un]) rfl ?_
  refine sFor_inv (f := fun (j : Nat) => PyData.int (1 + (j : Int))) (fun _ env => ∃ s3, env = [.cl (TN box), .cl (nD m), .cl (BT m k box), s3, .un, .un, .un, .un, .un]) (List.range ((bars m k box).length - 1)) ?_ ⟨_, rfl⟩ ?_ ?_
  · exact ran2_at (n := (bars m k box).length) (t := .cl) (u := .cl) (dCons_at (s := S) rfl (dCons_at (s := S) (eCall_at (r := [(BT m k box, .cl)]) rfl rfl (fLen_tup _ _ _)) rfl)) rfl rfl (by omega)
  · rintro p a r env e ⟨s3, rfl⟩
    have ha : a + 1 < (bars m k box).length := by have := range_at e; omega
    refine ⟨[.cl (TN box), .cl (nD m), .cl (BT m k box), .cl (.int (1 + (a : Int))), .un, .un, .un, .un, .un], rfl, _, (sIf_f (s := S) (bT_at (eBin_at (s := S) (s' := S) (t := .cl) (u := .cl) (d := barD k ((bars m k box)[a + 1])) (e := barD k ((bars m k box)[a])) (eBin_at (s := S) (s' := S) rfl rfl rfl (ix_map (j := a + 1) (by omega) (List.getElem?_eq_getElem ha) _ _)) (eBin_at (s := S) (s' := S) rfl (eBin_at (s := S) (s' := S) (e := .int 1) (u := .cl) (f := .int (1 + (a : Int) - 1)) (v := .cl) rfl rfl rfl rfl) rfl (ix_map (j := a) (by omega) (List.getElem?_eq_getElem (by omega)) _ _)) rfl (oLe_bar k (bars_lx ha) _ _)))).trans rfl, _, rfl⟩
  rintro env ⟨s3, rfl⟩
  refine sFor_inv (f := fun (q : List Nat × Nat) => PyData.tuple [nD q.2, barD k q.1]) (fun _ env => ∃ s3 s4 s5, env = [.cl (TN box), .cl (nD m), .cl (BT m k box), s3, s4, s5, .un, .un, .un] ∧ Cl s4) (bars m k box).zipIdx ?_ ⟨_, _, _, rfl, .inl rfl⟩ ?_ ?_
  · show some (enumD ((bars m k box).map (barD k)), S) = _
    rw [enumD_bar]
  · rintro p a r env e ⟨s3, s4, s5, rfl, _⟩
    have hc : a.1 ∈ bars m k box := by rw [zip_split e]; simp
    have hr := bar_room h hc
    refine ⟨[.cl (TN box), .cl (nD m), .cl (BT m k box), .cl (nD a.2), .cl (TN a.1), .cl (nD k), .un, .un, .un], rfl, _, (sIf_f (s := S) (bT_at (eBin_at (s := S) (s' := S) (t := .cl) (u := .cl) (eBin_at (s := S) (s' := S) (eBin_at (s := S) (s' := S) rfl rfl rfl (oIxA_TN a.1 k (by rw [hlen _ hc]; exact hk) .cl .cl)) rfl rfl (f := nD (a.1.getD k 0 + m)) (v := .cl) rfl) (eBin_at (s := S) (s' := S) rfl rfl rfl (oIxA_TN box k hk .cl .cl)) rfl ((oGt_nat _ _ _ _).trans (by rw [decide_eq_false (by omega)]))))).trans rfl, _, _, _, rfl, .inr ⟨_, rfl⟩⟩
  rintro env ⟨s3, s4, s5, rfl, hs4⟩
  refine (sSeq_nx (s := S) (e := [.cl (TN box), .cl (nD m), .cl (BT m k box), s3, s4, s5, .ow (.dict (dl [])), .un, .un]) (sSet_fr rfl (by simp))).trans ?_
  have hn := covs_nodup h
  refine sFor_inv (f := fun (q : List Nat × Nat) => PyData.tuple [nD q.2, barD k q.1]) (fun p env => ∃ s3 s4 s5 s7, env = [.cl (TN box), .cl (nD m), .cl (BT m k box), s3, s4, s5, .ow (.dict (dl (covs m k (p.map (·.1))))), s7, .un] ∧ Cl s4) (bars m k box).zipIdx ?_ ⟨_, _, _, _, rfl, hs4⟩ ?_ ?_
  · show some (enumD ((bars m k box).map (barD k)), S) = _
    rw [enumD_bar]
  · rintro p a r env e ⟨s3, s4, s5, s7, rfl, _⟩
    have hz := zip_split e
    have hc : a.1 ∈ bars m k box := by rw [hz]; simp
    have hcl : a.1.length ≤ 4 := by rw [hlen _ hc]; exact hd
    refine ⟨[.cl (TN box), .cl (nD m), .cl (BT m k box), .cl (nD a.2), .cl (TN a.1), .cl (nD k), .ow (.dict (dl (covs m k (p.map (·.1))))), s7, .un], rfl, ?_⟩
    have H := sFor_last (it := iSeq Tag.cln (eFn (runF 4 d_bar_cells) (dCons (eVar 4) (dCons (eVar 5) (dCons (eVar 1) (dNil)))))) (g := .n 7) (S := S) (env := [.cl (TN box), .cl (nD m), .cl (BT m k box), .cl (nD a.2), .cl (TN a.1), .cl (nD k), .ow (.dict (dl (covs m k (p.map (·.1))))), s7, .un])
      (body := sSeq (sIf (bT (eBin oInA (eVar 7) (eVar 6))) (sRet (eTup (dCons (eC (.str "twice")) (dCons (eVar 3) (dNil))))) (sNil)) (sSetA 6 (eVar 7) (eC (.bool true))))
      (f := TN) (fun q env => ∃ s7, env = [.cl (TN box), .cl (nD m), .cl (BT m k box), .cl (nD a.2), .cl (TN a.1), .cl (nD k), .ow (.dict (dl (covs m k (p.map (·.1)) ++ q))), s7, .un]) (barcs m k a.1) ?_ ⟨s7, by rw [List.append_nil]⟩ ?_
    · obtain ⟨env', h1, s7', rfl⟩ := H
      refine ⟨_, h1, .cl (nD a.2), .cl (TN a.1), .cl (nD k), s7', ?_, .inr ⟨TN a.1, rfl⟩⟩
      rw [List.map_append, covs_app, show List.map (·.1) [a] = [a.1] from rfl, covs_one]
    · unfold iSeq
      rw [eFn_at (r := [(TN a.1, .cl), (nD k, .cl), (nD m, .cl)]) rfl rfl (v_bar_cells (by rw [hlen _ hc]; exact hk) hcl hm S)]
      rfl
    · rintro q x rr env e2 ⟨s7, rfl⟩
      have hsp : covs m k (bars m k box) = (covs m k (p.map (·.1)) ++ q) ++ x :: (rr ++ covs m k (r.map (·.1))) := by
        conv => lhs; rw [hz]
        rw [covs_app, show a.1 :: r.map (·.1) = [a.1] ++ r.map (·.1) from rfl, covs_app, covs_one, e2]
        simp
      have hx : x ∉ covs m k (p.map (·.1)) ++ q := by
        intro hx
        rw [hsp] at hn
        exact (List.pairwise_append.mp hn).2.2 x hx x List.mem_cons_self rfl
      have hL : (covs m k (p.map (·.1)) ++ q).length < 16777216 := by
        have h1 := covs_length m k (bars m k box)
        rw [hsp, List.length_append] at h1
        have : (bars m k box).length * m ≤ 1500 * 1000 := Nat.mul_le_mul hB hm
        omega
      refine ⟨[.cl (TN box), .cl (nD m), .cl (BT m k box), .cl (nD a.2), .cl (TN a.1), .cl (nD k), .ow (.dict (dl (covs m k (p.map (·.1)) ++ q))), .cl (TN x), .un], rfl, _, (sSeq_nx (s := S) (e := [.cl (TN box), .cl (nD m), .cl (BT m k box), .cl (nD a.2), .cl (TN a.1), .cl (nD k), .ow (.dict (dl (covs m k (p.map (·.1)) ++ q))), .cl (TN x), .un]) ((sIf_f (s := S) (bT_at (eBin_at (s := S) (s' := S) rfl rfl rfl ((oIn_dl _ x .cl (.tp 6)).trans (by rw [decide_eq_false hx]))))).trans rfl)).trans (setA_dl (t := .cl) (c := x) rfl rfl rfl hL), .cl (TN x), ?_⟩
      rw [if_neg hx, List.append_assoc]
      rfl
  rintro env ⟨s3, s4, s5, s7, rfl, hs4⟩
  rw [List.zipIdx_map_fst]
  show sSeq _ _ [.cl (TN box), .cl (nD m), .cl (BT m k box), s3, s4, s5, .cl (.dict (dl (covs m k (bars m k box)))), s7, .un] S = _
  refine (sSeq_nx (s := S) (e := [.cl (TN box), .cl (nD m), .cl (BT m k box), s3, s4, s5, .cl (.dict (dl (covs m k (bars m k box)))), s7, .ow (.list [])]) (sSet_fr (eLc_no (S' := S) (l := cells box) (f := TN) ?_ ?_ ?_ ?_) (by simp))).trans rfl
  · unfold iSeq
    rw [eFn_at (r := [(TN box, .cl)]) rfl rfl (v_box_cells hb hd S)]
    rfl
  · rcases hs4 with rfl | ⟨d, rfl⟩ <;> rfl
  · intro c hc
    refine ⟨[.cl (TN box), .cl (nD m), .cl (BT m k box), s3, .cl (TN c), s5, .cl (.dict (dl (covs m k (bars m k box)))), s7, .un], rfl, bT_at (eBin_at (s := S) (s' := S) rfl rfl rfl ((oNotIn_dl _ c .cl .cl).trans (by rw [decide_eq_true (covs_all h (mem_cells.mp hc))]; rfl)))⟩
  · rw [cells_length]; exact Nat.le_trans hb.vol (by decide)
end G86

namespace G86
open PySem L2 Ev

theorem v_law_bars_fault {box : List Nat} {m k : Nat} (hb : Bx box) (hd : box.length ≤ 4) (h : BarOk m k box) (hm : m ≤ 1000) (S : SS) : runF 9 d__law_bars_fault [some (TN box), some (nD m), some (BT m k box)] S = some (.none, .cl, S) := by
  have hB := bars_le (m := m) (k := k) hb
  have hlen : ∀ c ∈ bars m k box, c.length = box.length := fun c hc => (mem_bars.mp hc).1.1
  have hk := h.hk
  have hC : (cells box).length ≤ 16777216 := by rw [cells_length]; exact Nat.le_trans hb.vol (by decide)
  have hcells : ∀ env, env[0]? = some (.cl (TN box)) → iSeq Tag.rd (eFn (runF 6 d__law_box_cells) (dCons (eVar 0) (dNil))) env S = some ((cells box).map TN, S) := by
    intro env he
    unfold iSeq
    rw [eFn_at (r := [(TN box, .cl)]) (s := S) (by unfold dCons eVar; rw [he]; rfl) rfl (v_law_cells hb hd S)]
    rfl
  refine runF_rt (env := [.cl (TN box), .cl (nD m), .cl (BT m k box), .un, .un, .un, .un, .un, .un]) rfl ?_
  refine (sSeq_nx (s := S) (e := [.cl (TN box), .cl (nD m), .cl (BT m k box), .un, .ow (.dict (dl (cells box))), .ow (.dict (dl [])), .un, .un, .un]) ?_).trans ?_
  · unfold sPar
    rw [eCall_at (s := S) (q := (.dict (dl (cells box)), .fr)) (r := [(.list ((cells box).map fun c => PyData.tuple [TN c, .bool true]), .fr)]) (dCons_at (s := S) (eLc_yes (S' := S) (l := cells box) (f := TN) (hcells _ rfl) rfl (fun c _ => ⟨_, rfl, .cl, rfl, rfl⟩) hC) rfl) rfl (fDict_dl (cells_nodup box) hC .fr rfl)]
    rfl
  show sSeq _ _ [.cl (TN box), .cl (nD m), .cl (BT m k box), .un, .cl (.dict (dl (cells box))), .ow (.dict (dl [])), .un, .un, .un] S = _
  refine sFor_inv (f := fun (j : Nat) => PyData.int (1 + (j : Int))) (fun _ env => ∃ s6, env = [.cl (TN box), .cl (nD m), .cl (BT m k box), .un, .cl (.dict (dl (cells box))), .ow (.dict (dl [])), s6, .un, .un]) (List.range ((bars m k box).length - 1)) ?_ ⟨_, rfl⟩ ?_ ?_
  · exact ran2_at (n := (bars m k box).length) (t := .cl) (u := .cl) (dCons_at (s := S) rfl (dCons_at (s := S) (eCall_at (r := [(BT m k box, .cl)]) rfl rfl (fLen_tup _ _ _)) rfl)) rfl rfl (by omega)
  · rintro p a r env e ⟨s6, rfl⟩
    have ha : a + 1 < (bars m k box).length := by have := range_at e; omega
    refine ⟨[.cl (TN box), .cl (nD m), .cl (BT m k box), .un, .cl (.dict (dl (cells box))), .ow (.dict (dl [])), .cl (.int (1 + (a : Int))), .un, .un], rfl, _, (sIf_f (s := S) (bNot_at (b := true) (bT_at (eBin_at (s := S) (s' := S) (t := .cl) (u := .cl) (d := barD k ((bars m k box)[a])) (e := barD k ((bars m k box)[a + 1])) (eBin_at (s := S) (s' := S) rfl (eBin_at (s := S) (s' := S) (e := .int 1) (u := .cl) (f := .int (1 + (a : Int) - 1)) (v := .cl) rfl rfl rfl rfl) rfl (ix_map (j := a) (by omega) (List.getElem?_eq_getElem (by omega)) _ _)) (eBin_at (s := S) (s' := S) rfl rfl rfl (ix_map (j := a + 1) (by omega) (List.getElem?_eq_getElem ha) _ _)) rfl (oLt_bar k (bars_lx ha) _ _))))).trans rfl, _, rfl⟩
  rintro env ⟨s6, rfl⟩
  refine sFor_inv (f := fun (q : List Nat × Nat) => PyData.tuple [nD q.2, barD k q.1]) (fun _ env => ∃ s6 s7, env = [.cl (TN box), .cl (nD m), .cl (BT m k box), .un, .cl (.dict (dl (cells box))), .ow (.dict (dl [])), s6, s7, .un]) (bars m k box).zipIdx ?_ ⟨_, _, rfl⟩ ?_ ?_
  · show some (enumD ((bars m k box).map (barD k)), S) = _
    rw [enumD_bar]
  · rintro p a r env e ⟨s6, s7, rfl⟩
    have hc : a.1 ∈ bars m k box := by rw [zip_split e]; simp
    refine ⟨[.cl (TN box), .cl (nD m), .cl (BT m k box), .un, .cl (.dict (dl (cells box))), .ow (.dict (dl [])), .cl (nD a.2), .cl (barD k a.1), .un], rfl, _, (sIf_f (s := S) (bT_at (eBin_at (s := S) (s' := S) (d := .list []) (t := .fr) (e := .list []) (eLc_no (S' := S) (l := barcs m k a.1) (f := TN) ?_ rfl ?_ ?_) rfl rfl rfl))).trans rfl, _, _, rfl⟩
    · unfold iSeq
      rw [eFn_at (r := [(barD k a.1, .cl), (nD m, .cl)]) rfl rfl (v_law_bar (by rw [hlen _ hc]; exact hk) (by rw [hlen _ hc]; exact hd) hm S)]
      rfl
    · intro x hx
      obtain ⟨i, hi, rfl⟩ := List.mem_map.mp hx
      refine ⟨_, rfl, bT_at (eBin_at (s := S) (s' := S) rfl rfl rfl ((oNotIn_dl _ (barc a.1 k i) .cl .cl).trans (by rw [decide_eq_true (mem_cells.mpr (barc_ok h hc (List.mem_range.mp hi)))]; rfl)))⟩
    · unfold barcs; simp; omega
  rintro env ⟨s6, s7, rfl⟩
  have hn := covs_nodup h
  refine sFor_inv (f := fun (q : List Nat × Nat) => PyData.tuple [nD q.2, barD k q.1]) (fun p env => ∃ s3 s6 s7, env = [.cl (TN box), .cl (nD m), .cl (BT m k box), s3, .cl (.dict (dl (cells box))), .ow (.dict (dl (covs m k (p.map (·.1))))), s6, s7, .un] ∧ Cl s3) (bars m k box).zipIdx ?_ ⟨_, _, _, rfl, .inl rfl⟩ ?_ ?_
  · show some (enumD ((bars m k box).map (barD k)), S) = _
    rw [enumD_bar]
  · rintro p a r env e ⟨s3, s6, s7, rfl, hs3⟩
    have hz := zip_split e
    have hc : a.1 ∈ bars m k box := by rw [hz]; simp
    have hcl : a.1.length ≤ 4 := by rw [hlen _ hc]; exact hd
    have hsp0 : covs m k (bars m k box) = covs m k (p.map (·.1)) ++ (barcs m k a.1 ++ covs m k (r.map (·.1))) := by
      conv => lhs; rw [hz]
      rw [covs_app, show a.1 :: r.map (·.1) = [a.1] ++ r.map (·.1) from rfl, covs_app, covs_one]
    have hno : ∀ x ∈ barcs m k a.1, x ∉ covs m k (p.map (·.1)) := by
      intro x hx hx2
      rw [hsp0] at hn
      exact (List.pairwise_append.mp hn).2.2 x hx2 x (List.mem_append_left _ hx) rfl
    have hbar : ∀ ok env, ok Tag.fr = true → env[7]? = some (.cl (barD k a.1)) → env[1]? = some (.cl (nD m)) → iSeq ok (eFn (runF 5 d__law_box_bar) (dCons (eVar 7) (dCons (eVar 1) (dNil)))) env S = some ((barcs m k a.1).map TN, S) := by
      intro ok env ho h7 h1
      unfold iSeq
      rw [eFn_at (r := [(barD k a.1, .cl), (nD m, .cl)]) (s := S) (by unfold dCons eVar; rw [h7, h1]; rfl) rfl (v_law_bar (by rw [hlen _ hc]; exact hk) hcl hm S), Option.bind_some]
      show (if ok Tag.fr then some ((barcs m k a.1).map TN, S) else none) = _
      rw [if_pos ho]
    refine ⟨[.cl (TN box), .cl (nD m), .cl (BT m k box), s3, .cl (.dict (dl (cells box))), .ow (.dict (dl (covs m k (p.map (·.1))))), .cl (nD a.2), .cl (barD k a.1), .un], rfl, ?_⟩
    rw [sSeq_nx (s := S) (e := [.cl (TN box), .cl (nD m), .cl (BT m k box), s3, .cl (.dict (dl (cells box))), .ow (.dict (dl (covs m k (p.map (·.1))))), .cl (nD a.2), .cl (barD k a.1), .un]) ((sIf_f (s := S) (bT_at (eBin_at (s := S) (s' := S) (d := .list []) (t := .fr) (e := .list []) (eLc_no (S' := S) (l := barcs m k a.1) (f := TN) (hbar Tag.rd _ rfl rfl rfl) (by rcases hs3 with rfl | ⟨d, rfl⟩ <;> rfl) (fun x hx => ⟨[.cl (TN box), .cl (nD m), .cl (BT m k box), .cl (TN x), .cl (.dict (dl (cells box))), .ow (.dict (dl (covs m k (p.map (·.1))))), .cl (nD a.2), .cl (barD k a.1), .un], rfl, bT_at (eBin_at (s := S) (s' := S) rfl rfl rfl ((oIn_dl _ x .cl (.tp 5)).trans (by rw [decide_eq_false (hno x hx)])))⟩) (by unfold barcs; simp; omega)) rfl rfl rfl))).trans rfl)]
    have H := sFor_last (it := iSeq Tag.cln (eFn (runF 5 d__law_box_bar) (dCons (eVar 7) (dCons (eVar 1) (dNil))))) (g := .n 3) (S := S) (env := [.cl (TN box), .cl (nD m), .cl (BT m k box), s3, .cl (.dict (dl (cells box))), .ow (.dict (dl (covs m k (p.map (·.1))))), .cl (nD a.2), .cl (barD k a.1), .un])
      (body := sSetA 5 (eVar 3) (eC (.bool true)))
      (f := TN) (fun q env => ∃ s3, env = [.cl (TN box), .cl (nD m), .cl (BT m k box), s3, .cl (.dict (dl (cells box))), .ow (.dict (dl (covs m k (p.map (·.1)) ++ q))), .cl (nD a.2), .cl (barD k a.1), .un] ∧ Cl s3) (barcs m k a.1) (hbar Tag.cln _ rfl rfl rfl) ⟨s3, by rw [List.append_nil], hs3⟩ ?_
    · obtain ⟨env', h1, s3', rfl, hs3'⟩ := H
      refine ⟨_, h1, s3', .cl (nD a.2), .cl (barD k a.1), ?_, hs3'⟩
      rw [List.map_append, covs_app, show List.map (·.1) [a] = [a.1] from rfl, covs_one]
    · rintro q x rr env e2 ⟨s3, rfl, hs3⟩
      have hsp : covs m k (bars m k box) = (covs m k (p.map (·.1)) ++ q) ++ x :: (rr ++ covs m k (r.map (·.1))) := by
        rw [hsp0, e2]; simp
      have hx : x ∉ covs m k (p.map (·.1)) ++ q := by
        intro hx
        rw [hsp] at hn
        exact (List.pairwise_append.mp hn).2.2 x hx x List.mem_cons_self rfl
      have hL : (covs m k (p.map (·.1)) ++ q).length < 16777216 := by
        have h1 := covs_length m k (bars m k box)
        rw [hsp, List.length_append] at h1
        have : (bars m k box).length * m ≤ 1500 * 1000 := Nat.mul_le_mul hB hm
        omega
      refine ⟨[.cl (TN box), .cl (nD m), .cl (BT m k box), .cl (TN x), .cl (.dict (dl (cells box))), .ow (.dict (dl (covs m k (p.map (·.1)) ++ q))), .cl (nD a.2), .cl (barD k a.1), .un], rfl, _, setA_dl (t := .cl) (c := x) rfl rfl rfl hL, .cl (TN x), ?_, .inr ⟨_, rfl⟩⟩
      rw [if_neg hx, List.append_assoc]
      rfl
  rintro env ⟨s3, s6, s7, rfl, hs3⟩
  rw [List.zipIdx_map_fst]
  show sSeq _ _ [.cl (TN box), .cl (nD m), .cl (BT m k box), s3, .cl (.dict (dl (cells box))), .cl (.dict (dl (covs m k (bars m k box)))), s6, s7, .un] S = _
  refine (sSeq_nx (s := S) (e := [.cl (TN box), .cl (nD m), .cl (BT m k box), s3, .cl (.dict (dl (cells box))), .cl (.dict (dl (covs m k (bars m k box)))), s6, s7, .ow (.list [])]) (sSet_fr (eLc_no (S' := S) (l := cells box) (f := TN) (hcells _ rfl) ?_ ?_ hC) (by simp))).trans rfl
  · rcases hs3 with rfl | ⟨d, rfl⟩ <;> rfl
  · intro c hc
    refine ⟨[.cl (TN box), .cl (nD m), .cl (BT m k box), .cl (TN c), .cl (.dict (dl (cells box))), .cl (.dict (dl (covs m k (bars m k box)))), s6, s7, .un], rfl, bT_at (eBin_at (s := S) (s' := S) rfl rfl rfl ((oNotIn_dl _ c .cl .cl).trans (by rw [decide_eq_true (covs_all h (mem_cells.mp hc))]; rfl)))⟩
end G86

namespace G86
open PySem L2 Ev

/-! ### both judges of a laying -/
def PL (m k : Nat) (box : List Nat) : PyData := .tuple [.str "laying", BT m k box]
def PC (d : Nat) : PyData := .tuple [.str "colours", .int 0, nD d]
theorem oEq_cl (t u : Tag) : oEq (.str "colours") t (.str "laying") u = some (.bool false, .cl) := by
  unfold oEq
  rw [show (SeqAt.shaped (.str "colours") && SeqAt.shaped (.str "laying")) = true from by decide +kernel, if_pos rfl, show PyData.eqv (.str "colours") (.str "laying") = false from by decide +kernel]
theorem oNe_cc (t u : Tag) : oNe (.str "colours") t (.str "colours") u = some (.bool false, .cl) := by
  unfold oNe
  rw [show (SeqAt.shaped (.str "colours") && SeqAt.shaped (.str "colours")) = true from by decide +kernel, if_pos rfl, show PyData.eqv (.str "colours") (.str "colours") = true from by decide +kernel]
  rfl
theorem oEq_ll (t u : Tag) : oEq (.str "laying") t (.str "laying") u = some (.bool true, .cl) := by
  unfold oEq
  rw [show (SeqAt.shaped (.str "laying") && SeqAt.shaped (.str "laying")) = true from by decide +kernel, if_pos rfl, show PyData.eqv (.str "laying") (.str "laying") = true from by decide +kernel]
theorem oNe_ll (t u : Tag) : oNe (.str "laying") t (.str "laying") u = some (.bool false, .cl) := by
  unfold oNe
  rw [show (SeqAt.shaped (.str "laying") && SeqAt.shaped (.str "laying")) = true from by decide +kernel, if_pos rfl, show PyData.eqv (.str "laying") (.str "laying") = true from by decide +kernel]
  rfl
theorem v_judge_lay {box : List Nat} {m k : Nat} (hb : Bx box) (hd : box.length ≤ 4) (h : BarOk m k box) (hm : m ≤ 1000) (S : SS) : runF 6 d_judge_box [some (TN box), some (nD m), some (PL m k box)] S = some (.none, .cl, S) := by
  have hB := bars_le (m := m) (k := k) hb
  refine runF_rt (env := [.cl (TN box), .cl (nD m), .cl (PL m k box), .un, .un, .un]) rfl ?_
  refine (sSeq_nx (s := S) (e := [.cl (TN box), .cl (nD m), .cl (PL m k box), .un, .un, .un]) ((sIf_f (s := S) rfl).trans rfl)).trans ?_
  refine sSeq_rt ((sIf_t (s := S) ((bAnd_t (bT_at (eBin_at (s := S) (s' := S) (d := .str "laying") (t := .cl) rfl rfl rfl (oEq_ll _ _)))).trans rfl)).trans ?_)
  refine (sSeq_nx (s := S) (e := [.cl (TN box), .cl (nD m), .cl (PL m k box), .cl (.bool true), .un, .un]) (sSet_cl (d := .bool true) (eCall_at (q := (.bool true, .cl)) (r := [(.list ((bars m k box).map fun _ => PyData.bool true), .fr)]) (dCons_at (s := S) (eLc_yes (S' := S) (l := bars m k box) (f := barD k) rfl rfl (fun c hc => ⟨[.cl (TN box), .cl (nD m), .cl (PL m k box), .un, .un, .cl (barD k c)], rfl, .cl, rfl, eFn_at (r := [(TN box, .cl), (barD k c, .cl)]) rfl rfl (v_is_box_bar hb hd (mem_bars.mp hc).1 h.hk S)⟩) (by omega)) rfl) rfl (fAll_yes _ _)) (by simp))).trans ?_
  refine sRet_cl ((eIf_t (s := S) rfl).trans (eFn_at (s := S) (r := [(TN box, .cl), (nD m, .cl), (BT m k box, .cl)]) rfl rfl (v_bars_fault hb hd h hm S)))
theorem v_law_fault_lay {box : List Nat} {m k : Nat} (hb : Bx box) (hd : box.length ≤ 4) (h : BarOk m k box) (hm : m ≤ 1000) (S : SS) : runF 5 d__law_box_fault [some (TN box), some (nD m), some (PL m k box)] S = some (.none, .cl, S) := by
  have hB := bars_le (m := m) (k := k) hb
  refine runF_rt (env := [.cl (TN box), .cl (nD m), .cl (PL m k box), .un, .un]) rfl ?_
  refine (sSeq_nx (s := S) (e := [.cl (TN box), .cl (nD m), .cl (PL m k box), .un, .un]) ((sIf_f (s := S) rfl).trans rfl)).trans ?_
  refine sSeq_rt ((sIf_t (s := S) rfl).trans ?_)
  refine (sSeq_nx (s := S) (e := [.cl (TN box), .cl (nD m), .cl (PL m k box), .un, .un]) ((sIf_f (s := S) ((bOr_f (bT_at (eBin_at (s := S) (s' := S) (d := .str "laying") (t := .cl) rfl rfl rfl (oNe_ll _ _)))).trans rfl)).trans rfl)).trans ?_
  refine (sSeq_nx (s := S) (e := [.cl (TN box), .cl (nD m), .cl (PL m k box), .un, .un]) ((sIf_f (s := S) (bT_at (eBin_at (s := S) (s' := S) (d := .list []) (t := .fr) (e := .list []) (eLc_no (S' := S) (l := bars m k box) (f := barD k) rfl rfl (fun c hc => ⟨[.cl (TN box), .cl (nD m), .cl (PL m k box), .un, .cl (barD k c)], rfl, bNot_at (b := true) ?_⟩) (by omega)) rfl rfl rfl))).trans rfl)).trans ?_
  · unfold bTru
    rw [eFn_at (r := [(TN box, .cl), (barD k c, .cl)]) rfl rfl (v_law_is_box_bar hb hd (mem_bars.mp hc).1 h.hk S)]
    rfl
  · exact sRet_cl (eFn_at (s := S) (r := [(TN box, .cl), (nD m, .cl), (BT m k box, .cl)]) rfl rfl (v_law_bars_fault hb hd h hm S))
/-! ### .. and of colours -/
theorem rowOf_at {m : Nat} {L : List (List Nat)} {c : Nat} (h : c < m) : (rowOf m L)[c]? = some (cnt m L c) := by
  unfold rowOf
  rw [List.getElem?_map, List.getElem?_range h]; rfl
theorem ix_row {m : Nat} {L : List (List Nat)} {c : Nat} (h : c < m) (t u : Tag) : oIxA (TN (rowOf m L)) t (nD c) u = some (nD (cnt m L c), .cl) := ix_map (F := nD) rfl (rowOf_at h) t u
theorem chain3 {env : En} {S : SS} {d m : Nat} {mb mc : ED} (hb : mb env S = some (.int 0, .cl, S)) (hc : mc env S = some (nD d, .cl, S)) {md : ED} (hm : md env S = some (nD m, .cl, S)) (h1 : 0 < d) (h2 : d < m) : bNot (bChain3 oLeA oLtA oLtA (eC (.int 0)) mb mc md) env S = some (false, S) := by
  refine bNot_at (b := true) ?_
  unfold bChain3
  show (mb env S).bind _ = _
  rw [hb, Option.bind_some]
  show (mc env S).bind _ = _
  rw [hc, Option.bind_some]
  rw [if_pos (show Tag.rd (nD d, Tag.cl, S).2.1 = true from rfl)]
  show ((some (PyData.bool (decide ((0 : Int) < (d : Int))), Tag.cl)).bind asB).bind _ = _
  rw [decide_eq_true (by omega)]
  show (md env S).bind _ = _
  rw [hm, Option.bind_some]
  rw [if_pos (show Tag.rd (nD m, Tag.cl, S).2.1 = true from rfl)]
  show ((some (PyData.bool (decide ((d : Int) < (m : Int))), Tag.cl)).bind asB).map _ = _
  rw [decide_eq_true (by omega)]; rfl
theorem ix_head (d : Nat) (rest : List Nat) (t u : Tag) : oIxA (.list ((d :: rest).map nD)) t (nD 0) u = some (nD d, .cl) := by
  show (atI ((d :: rest).map nD) ((0 : Nat) : Int)).map (fun d => (d, Tag.cl)) = _
  rw [atI_at]; rfl
theorem v_judge_col {box : List Nat} {m d : Nat} (hb : Bx box) (hd : box.length ≤ 4) (h1 : 1 ≤ m) (h2 : m ≤ 1000) (hd0 : 0 < d) (hdm : d < m) (hne : cnt m (cells box) 0 ≠ cnt m (cells box) d) (S : SS) : runF 6 d_judge_box [some (TN box), some (nD m), some (PC d)] S = some (.none, .cl, S) := by
  refine runF_rt (env := [.cl (TN box), .cl (nD m), .cl (PC d), .un, .un, .un]) rfl ?_
  refine (sSeq_nx (s := S) (e := [.cl (TN box), .cl (nD m), .cl (PC d), .un, .un, .un]) ((sIf_f (s := S) rfl).trans rfl)).trans ?_
  refine (sSeq_nx (s := S) (e := [.cl (TN box), .cl (nD m), .cl (PC d), .un, .un, .un]) ((sIf_f (s := S) (bAnd_f (bT_at (eBin_at (s := S) (s' := S) (d := .str "colours") (t := .cl) rfl rfl rfl (oEq_cl _ _))))).trans rfl)).trans ?_
  show sSeq _ _ [.cl (TN box), .cl (nD m), .cl (PC d), .un, .un, .un] S = _
  refine (sSeq_nx (s := S) (e := [.cl (TN box), .cl (nD m), .cl (PC d), .un, .un, .un]) ((sIf_f (s := S) ((bOr_f (bT_at (eBin_at (s := S) (s' := S) (d := .str "colours") (t := .cl) rfl rfl rfl (oNe_cc _ _)))).trans (by rfl))).trans rfl)).trans ?_
  refine (sSeq_nx (s := S) (e := [.cl (TN box), .cl (nD m), .cl (PC d), .un, .un, .un]) ((sIf_f (s := S) (chain3 rfl rfl rfl hd0 hdm)).trans rfl)).trans ?_
  refine (sSeq_nx (s := S) (e := [.cl (TN box), .cl (nD m), .cl (PC d), .un, .cl (TN (rowOf m (cells box))), .un]) (sSet_cl (eFn_at (s := S) (r := [(TN box, .cl), (nD m, .cl)]) rfl rfl (v_box_row hb hd h1 h2 S)) (by simp))).trans ?_
  refine sRet_cl ((eIf_f (s := S) (bT_at (eBin_at (s := S) (s' := S) (eBin_at (s := S) (s' := S) rfl rfl rfl (ix_row (c := 0) h1 .cl .cl)) (eBin_at (s := S) (s' := S) rfl rfl rfl (ix_row (c := d) hdm .cl .cl)) rfl ((oEq_nat _ _ _ _).trans (by rw [beq_eq_false_iff_ne.mpr hne]))))).trans rfl)
theorem v_law_fault_col {box : List Nat} {m d : Nat} (hb : Bx box) (hd : box.length ≤ 4) (h1 : 1 ≤ m) (h2 : m ≤ 1000) (hd0 : 0 < d) (hdm : d < m) (hne : cnt m (cells box) 0 ≠ cnt m (cells box) d) (S : SS) : runF 5 d__law_box_fault [some (TN box), some (nD m), some (PC d)] S = some (.none, .cl, S) := by
  refine runF_rt (env := [.cl (TN box), .cl (nD m), .cl (PC d), .un, .un]) rfl ?_
  refine (sSeq_nx (s := S) (e := [.cl (TN box), .cl (nD m), .cl (PC d), .un, .un]) ((sIf_f (s := S) rfl).trans rfl)).trans ?_
  refine (sSeq_nx (s := S) (e := [.cl (TN box), .cl (nD m), .cl (PC d), .un, .un]) ((sIf_f (s := S) rfl).trans rfl)).trans ?_
  refine (sSeq_nx (s := S) (e := [.cl (TN box), .cl (nD m), .cl (PC d), .un, .un]) ((sIf_f (s := S) ((bOr_f (bT_at (eBin_at (s := S) (s' := S) (d := .str "colours") (t := .cl) rfl rfl rfl (oNe_cc _ _)))).trans (by rfl))).trans rfl)).trans ?_
  refine (sSeq_nx (s := S) (e := [.cl (TN box), .cl (nD m), .cl (PC d), .un, .un]) ((sIf_f (s := S) (chain3 rfl rfl rfl hd0 hdm)).trans rfl)).trans ?_
  refine (sSeq_nx (s := S) (e := [.cl (TN box), .cl (nD m), .cl (PC d), .cl (TN (rowOf m (cells box))), .un]) (sSet_cl (eFn_at (s := S) (r := [(.list ((cells box).map TN), .cl), (nD m, .cl)]) (dCons_at (s := S) (eFn_at (s := S) (r := [(TN box, .cl)]) rfl rfl (v_law_cells hb hd S)) rfl) rfl (v_law_row h1 h2 (by rw [cells_length]; exact Nat.le_trans hb.vol (by decide)) S)) (by simp))).trans ?_
  refine sRet_cl ((eIf_f (s := S) (bT_at (eBin_at (s := S) (s' := S) (eBin_at (s := S) (s' := S) rfl rfl rfl (ix_row (c := 0) h1 .cl .cl)) (eBin_at (s := S) (s' := S) rfl rfl rfl (ix_row (c := d) hdm .cl .cl)) rfl ((oEq_nat _ _ _ _).trans (by rw [beq_eq_false_iff_ne.mpr hne]))))).trans rfl)
/-- the paper where no side can be divided -/
theorem v_paper_col {box : List Nat} {m d : Nat} {rest : List Nat} (hb : Bx box) (hd : box.length ≤ 4) (h1 : 1 ≤ m) (h2 : m ≤ 1000) (hp : ∀ x ∈ box, x % m ≠ 0) (hr : (List.range m).filter (fun d => !(cnt m (cells box) d == cnt m (cells box) 0)) = d :: rest) (S : SS) :
    runF 7 d_box_paper [some (TN box), some (nD m)] S = some (PC d, .cl, S) := by
  refine runF_rt (env := [.cl (TN box), .cl (nD m), .un, .un, .un, .un, .un]) rfl ?_
  refine sFor_inv (f := fun q => PyData.tuple [nD q.2, nD q.1]) (fun _ env => ∃ s2 s3, env = [.cl (TN box), .cl (nD m), s2, s3, .un, .un, .un]) box.zipIdx ?_ ⟨_, _, rfl⟩ (paper_go h1 S hp) ?_
  · show some (enumD (box.map nD), S) = _
    rw [enumD_nD]
  rintro env ⟨s2, s3, rfl⟩
  refine (sSeq_nx (s := S) (e := [.cl (TN box), .cl (nD m), s2, s3, .cl (TN (rowOf m (cells box))), .un, .un]) (sSet_cl (eFn_at (s := S) (r := [(TN box, .cl), (nD m, .cl)]) rfl rfl (v_box_row hb hd h1 h2 S)) (by simp))).trans ?_
  refine sRet_cl (eTup_at (r := [(.str "colours", .cl), (.int 0, .cl), (nD d, .cl)]) (dCons_at (s := S) rfl (dCons_at (s := S) rfl (dCons_at (s := S) (eBin_at (s := S) (s' := S) (d := .list ((d :: rest).map nD)) (t := .fr) (e := nD 0) (u := .cl) (f := nD d) (v := .cl) ((eLc_at (S' := S) (l := List.range m) (f := nD) (e := nD) (ran1_at (n := m) (t := .cl) rfl rfl (by omega)) rfl (fun c hc => ⟨[.cl (TN box), .cl (nD m), s2, s3, .cl (TN (rowOf m (cells box))), .un, .cl (nD c)], rfl, bT_at (eBin_at (s := S) (s' := S) (eBin_at (s := S) (s' := S) rfl rfl rfl (ix_row (c := c) (List.mem_range.mp hc) .cl .cl)) (eBin_at (s := S) (s' := S) rfl rfl rfl (ix_row (c := 0) h1 .cl .cl)) rfl (oNe_nat _ _ _ _)), fun _ => ⟨.cl, rfl, rfl⟩⟩) (by simp; omega)).trans (by rw [hr])) rfl rfl (ix_head d rest _ _)) rfl))) rfl (by simp) rfl)
end G86

namespace G86
open PySem L2 Ev

def sumTo : Nat → (Nat → Nat) → Nat
  | 0, _ => 0
  | n + 1, f => sumTo n f + f n
theorem sumTo_succ (n : Nat) (f : Nat → Nat) : sumTo (n + 1) f = sumTo n f + f n := rfl
theorem sumTo_congr {f g : Nat → Nat} : ∀ {n : Nat}, (∀ i, i < n → f i = g i) → sumTo n f = sumTo n g
  | 0, _ => rfl
  | n + 1, h => by rw [sumTo_succ, sumTo_succ, sumTo_congr fun i hi => h i (by omega), h n (by omega)]
theorem sumTo_add {f g : Nat → Nat} : ∀ n, sumTo n (fun i => f i + g i) = sumTo n f + sumTo n g
  | 0 => rfl
  | n + 1 => by rw [sumTo_succ, sumTo_succ, sumTo_succ, sumTo_add n]; omega
theorem sumTo_const (k : Nat) : ∀ n, sumTo n (fun _ => k) = n * k
  | 0 => by simp [sumTo]
  | n + 1 => by rw [sumTo_succ, sumTo_const k n, Nat.add_mul, Nat.one_mul]
theorem sumTo_app (f : Nat → Nat) (a : Nat) : ∀ b, sumTo (a + b) f = sumTo a f + sumTo b (fun i => f (a + i))
  | 0 => rfl
  | b + 1 => by
    show sumTo (a + b) f + f (a + b) = _
    rw [sumTo_app f a b]
    show _ = sumTo a f + (sumTo b (fun i => f (a + i)) + f (a + b))
    omega
theorem sumTo_front (f : Nat → Nat) (n : Nat) : sumTo (n + 1) f = f 0 + sumTo n (fun i => f (i + 1)) := by
  rw [Nat.add_comm, sumTo_app]
  show 0 + f 0 + _ = _
  rw [Nat.zero_add]
  congr 1
  exact sumTo_congr fun i _ => by rw [Nat.add_comm]
def pt (m c s : Nat) : Nat := if s % m == c then 1 else 0
theorem pt_one0 (c : Nat) : ∀ n, sumTo n (fun i => if i == c then 1 else 0) = if c < n then 1 else 0
  | 0 => by simp [sumTo]
  | n + 1 => by
    rw [sumTo_succ, pt_one0 c n]
    by_cases h : c < n
    · rw [if_pos h, if_pos (by omega : c < n + 1), if_neg (by simp; omega)]
    · by_cases h2 : n = c
      · subst h2; simp
      · rw [if_neg h, if_neg (by omega : ¬ c < n + 1), if_neg (by simpa using h2)]
theorem pt_one {m c : Nat} (hc : c < m) : ∀ s, sumTo m (fun i => pt m c (s + i)) = 1
  | 0 => by
    have : sumTo m (fun i => pt m c (0 + i)) = sumTo m (fun i => if i == c then 1 else 0) := sumTo_congr fun i hi => by unfold pt; rw [Nat.zero_add, Nat.mod_eq_of_lt hi]
    rw [this, pt_one0, if_pos hc]
  | s + 1 => by
    have h1 := pt_one hc s
    have h2 := sumTo_front (fun i => pt m c (s + i)) m
    have h3 : sumTo (m + 1) (fun i => pt m c (s + i)) = sumTo m (fun i => pt m c (s + i)) + pt m c (s + m) := rfl
    have h4 : pt m c (s + m) = pt m c (s + 0) := by unfold pt; rw [Nat.add_mod_right, Nat.add_zero]
    have h5 : sumTo m (fun i => pt m c (s + 1 + i)) = sumTo m (fun i => pt m c (s + (i + 1))) := sumTo_congr fun i _ => by rw [Nat.add_assoc, Nat.add_comm 1 i]
    rw [h5]
    change _ = pt m c (s + 0) + _ at h2
    omega
/-- how many of the cells come to c with i more -/
def hh (m : Nat) (L : List (List Nat)) (c i : Nat) : Nat := L.countP fun x => (x.sum + i) % m == c
theorem hh_cons (m : Nat) (x : List Nat) (L : List (List Nat)) (c i : Nat) : hh m (x :: L) c i = pt m c (x.sum + i) + hh m L c i := by
  unfold hh pt
  rw [List.countP_cons]
  omega
theorem cnt_ext (m : Nat) (L : List (List Nat)) (c : Nat) : ∀ a, cnt m (ext L a) c = sumTo a (hh m L c) := by
  intro a
  induction L with
  | nil =>
    have : hh m [] c = fun _ => 0 := by funext i; rfl
    rw [this, sumTo_const]; rfl
  | cons x r ih =>
    have h1 : cnt m (ext (x :: r) a) c = ((List.range a).map fun i => x ++ [i]).countP (fun y => y.sum % m == c) + cnt m (ext r a) c := by
      unfold cnt ext
      rw [List.flatMap_cons, List.countP_append]
    have h2 : sumTo a (hh m (x :: r) c) = sumTo a (fun i => pt m c (x.sum + i)) + sumTo a (hh m r c) := by
      rw [← sumTo_add]
      exact sumTo_congr fun i _ => hh_cons m x r c i
    rw [h1, h2, ih]
    congr 1
    clear h1 h2 ih
    induction a with
    | zero => rfl
    | succ a ih =>
      rw [List.range_succ, List.map_append, List.countP_append, ih]
      rw [sumTo_succ]
      congr 1
      unfold pt
      rw [List.map_singleton, List.countP_singleton, List.sum_append, List.sum_singleton]
theorem hh_sum {m c : Nat} (hc : c < m) (a : Nat) : ∀ L : List (List Nat), sumTo m (fun i => hh m L c (a + i)) = L.length
  | [] => by
    have : (fun i => hh m [] c (a + i)) = fun _ => 0 := by funext i; rfl
    rw [this, sumTo_const]; simp
  | x :: r => by
    have : sumTo m (fun i => hh m (x :: r) c (a + i)) = sumTo m (fun i => pt m c (x.sum + a + i)) + sumTo m (fun i => hh m r c (a + i)) := by
      rw [← sumTo_add]
      exact sumTo_congr fun i _ => by rw [hh_cons, Nat.add_assoc]
    rw [this, pt_one hc, hh_sum hc a r, List.length_cons]; omega
theorem cnt_mod {m c : Nat} (hc : c < m) (L : List (List Nat)) (b : Nat) : ∀ q, sumTo (b + m * q) (hh m L c) = sumTo b (hh m L c) + q * L.length
  | 0 => by simp
  | q + 1 => by
    rw [Nat.mul_add, Nat.mul_one, ← Nat.add_assoc, sumTo_app, hh_sum hc, cnt_mod hc L b q, Nat.add_mul, Nat.one_mul, Nat.add_assoc]
theorem hh_cnt {m c i : Nat} (hc : c < m) (hi : i < m) (L : List (List Nat)) : hh m L c i = cnt m L ((c + m - i) % m) := by
  unfold hh cnt
  congr 1
  funext x
  have hu : x.sum % m < m := Nat.mod_lt _ (by omega)
  have h1 : (x.sum + i) % m = if x.sum % m + i < m then x.sum % m + i else x.sum % m + i - m := by
    rw [Nat.add_mod, Nat.mod_eq_of_lt hi]
    split
    · rename_i h; exact Nat.mod_eq_of_lt h
    · rw [Nat.mod_eq_sub_mod (by omega), Nat.mod_eq_of_lt (by omega)]
  have h2 : (c + m - i) % m = if i ≤ c then c - i else c + m - i := by
    split
    · rw [Nat.mod_eq_sub_mod (by omega), show c + m - i - m = c - i from by omega, Nat.mod_eq_of_lt (by omega)]
    · exact Nat.mod_eq_of_lt (by omega)
  rw [h1, h2]
  by_cases h : (if x.sum % m + i < m then x.sum % m + i else x.sum % m + i - m) = c
  · rw [beq_iff_eq.mpr h, eq_comm, beq_iff_eq]
    split at h <;> split <;> omega
  · rw [beq_eq_false_iff_ne.mpr h, eq_comm, beq_eq_false_iff_ne]
    intro h'
    split at h <;> split at h' <;> omega

/-! ### patterns -/
def stepR (m : Nat) (v : List Nat) (r : Nat) : List Nat := (List.range m).map fun c => sumTo r fun i => v.getD ((c + m - i) % m) 0
def pat0 (m : Nat) : List Nat := 1 :: List.replicate (m - 1) 0
def pat (m : Nat) (box : List Nat) : List Nat := box.foldl (fun v s => stepR m v (s % m)) (pat0 m)
def Fits (m : Nat) (L : List (List Nat)) (v : List Nat) : Prop := ∃ K, ∀ c, c < m → cnt m L c = v.getD c 0 + K
theorem fits_ext {m : Nat} {L : List (List Nat)} {v : List Nat} (a : Nat) (h : Fits m L v) : Fits m (ext L a) (stepR m v (a % m)) := by
  obtain ⟨K, hK⟩ := h
  refine ⟨a % m * K + a / m * L.length, fun c hc => ?_⟩
  have hm : 0 < m := by omega
  have h1 : (stepR m v (a % m)).getD c 0 = sumTo (a % m) fun i => v.getD ((c + m - i) % m) 0 := by
    unfold stepR
    rw [List.getD_eq_getElem?_getD, List.getElem?_map, List.getElem?_range hc]; rfl
  rw [cnt_ext, h1]
  conv => lhs; rw [← Nat.mod_add_div a m]
  rw [cnt_mod hc, ← Nat.add_assoc, ← sumTo_const K (a % m), ← sumTo_add]
  congr 1
  refine sumTo_congr fun i hi => ?_
  rw [hh_cnt hc (by have := Nat.mod_lt a hm; omega), hK _ (Nat.mod_lt _ hm)]
theorem fits_cells {m : Nat} (hm : 1 ≤ m) (box : List Nat) : Fits m (cells box) (pat m box) := by
  suffices H : ∀ (r p : List Nat), Fits m (cells p) (pat m p) → Fits m (cells (p ++ r)) (pat m (p ++ r)) by
    have := H box [] (by
      refine ⟨0, fun c hc => ?_⟩
      unfold cells pat pat0 cnt
      cases c with
      | zero => simp
      | succ c => simp [List.getD_eq_getElem?_getD, List.getElem?_replicate]; split <;> simp)
    simpa using this
  intro r
  induction r with
  | nil => intro p h; simpa using h
  | cons a r ih =>
    intro p h
    have := ih (p ++ [a]) (by rw [cells_snoc]; unfold pat at h ⊢; rw [List.foldl_append]; exact fits_ext a h)
    simpa using this
def allEq (v : List Nat) : Bool := v.all (· == v.getD 0 0)
def chk (m : Nat) : Nat → List Nat → Bool → Bool
  | 0, v, z => allEq v == z
  | n + 1, v, z => allEq v == z && (List.range m).all fun r => chk m n (stepR m v r) (z || r == 0)
theorem chk_at {m : Nat} (hm : 1 ≤ m) : ∀ (n : Nat) (v : List Nat) (z : Bool) (box : List Nat), chk m n v z = true → box.length ≤ n → allEq (box.foldl (fun v s => stepR m v (s % m)) v) = (z || box.any (fun s => s % m == 0))
  | 0, v, z, [], h, _ => by simpa [chk] using h
  | n + 1, v, z, [], h, _ => by
    unfold chk at h
    rw [Bool.and_eq_true] at h
    simpa using h.1
  | 0, v, z, s :: r, _, hl => by simp at hl
  | n + 1, v, z, s :: r, h, hl => by
    unfold chk at h
    rw [Bool.and_eq_true] at h
    have h2 := List.all_eq_true.mp h.2 (s % m) (List.mem_range.mpr (Nat.mod_lt _ (by omega)))
    rw [List.foldl_cons, chk_at hm n _ _ r h2 (by simpa using hl), List.any_cons, Bool.or_assoc]
theorem chk_big : chk 6 4 (pat0 6) false = true ∧ chk 7 4 (pat0 7) false = true := by decide +kernel
theorem chk_8 : chk 8 4 (pat0 8) false = true := by decide +kernel
theorem chk_9 : chk 9 4 (pat0 9) false = true := by decide +kernel
theorem chk_small : chk 2 4 (pat0 2) false = true ∧ chk 3 4 (pat0 3) false = true ∧ chk 4 4 (pat0 4) false = true ∧ chk 5 4 (pat0 5) false = true := by decide +kernel
end G86

namespace G86
open PySem L2 Ev

/-! ### a drawn box -/
theorem foldl_ofNat : ∀ (l : List Nat) (a : Nat), (l.map Int.ofNat).foldl (· * ·) ((a : Nat) : Int) = ((l.foldl (· * ·) a : Nat) : Int)
  | [], _ => rfl
  | b :: r, a => by
    rw [List.map_cons, List.foldl_cons, List.foldl_cons, ← foldl_ofNat r (a * b)]
    first | (congr 1; done) | (congr 1; exact (Int.natCast_mul a b).symm)
theorem prod_at {s1 s2 s0 s4 s6 s7 : Sl} {S : SS} {l : List Nat} (hl : ∀ s ∈ l, s ≤ 1500) (h6 : Cl s6) : ∃ s6', Cl s6' ∧ sProd 3 5 6 [s0, s1, s2, .ow (.list (l.map nD)), s4, .cl (.int 1), s6, s7] S = some (.nx [s0, s1, s2, .ow (.list (l.map nD)), s4, .cl (nD (vol l)), s6', s7] S) := by
  show ∃ s6', Cl s6' ∧ (intsOf (l.map nD)).bind _ = _
  rw [intsOf_nD]
  show ∃ s6', Cl s6' ∧ (if (l.map Int.ofNat).all (fun n => decide (n.natAbs < 1000000)) then (match (l.map Int.ofNat).getLast? with
    | none => some (Out.nx [s0, s1, s2, .ow (.list (l.map nD)), s4, .cl (.int 1), s6, s7] S)
    | some z => some (Out.nx [s0, s1, s2, .ow (.list (l.map nD)), s4, .cl (.int ((l.map Int.ofNat).foldl (· * ·) 1)), .cl (.int z), s7] S)) else none) = _
  rw [if_pos (List.all_eq_true.mpr fun n hn => by
    obtain ⟨a, ha, rfl⟩ := List.mem_map.mp hn
    have := hl a ha
    exact decide_eq_true (by show (Int.ofNat a).natAbs < 1000000; simp; omega))]
  cases hc : (l.map Int.ofNat).getLast? with
  | none =>
    have : l = [] := by
      rw [List.getLast?_eq_none_iff] at hc
      simpa using hc
    subst this
    exact ⟨s6, h6, rfl⟩
  | some z =>
    refine ⟨.cl (.int z), .inr ⟨_, rfl⟩, ?_⟩
    show some (Out.nx [s0, s1, s2, .ow (.list (l.map nD)), s4, .cl (.int ((l.map Int.ofNat).foldl (· * ·) ((1 : Nat) : Int))), .cl (.int z), s7] S) = _
    rw [foldl_ofNat]; rfl
theorem oDiv_nat {a b : Nat} (h : 1 ≤ b) (h2 : b ≤ 1500) (t u : Tag) : oDiv (nD a) t (nD b) u = some (nD (a / b), .cl) := by
  show (if (decide ((b : Int) ≠ 0) && decide ((b : Int).natAbs < 1073741824)) = true then some (PyData.int (Int.fdiv a b), Tag.cl) else none) = _
  rw [decide_eq_true (by omega), decide_eq_true (by omega), if_pos (show (true && true) = true from rfl), fdiv_nat]
theorem fMin_nat (a b : Nat) (t u : Tag) : fMin [(nD a, t), (nD b, u)] = some (nD (min b a), .cl) := by
  show some (PyData.int (if (b : Int) < (a : Int) then (b : Int) else (a : Int)), Tag.cl) = _
  congr 3
  split <;> omega
theorem fMax_nat (a b : Nat) (t u : Tag) : fMax [(nD a, t), (nD b, u)] = some (nD (max b a), .cl) := by
  show some (PyData.int (if (b : Int) > (a : Int) then (b : Int) else (a : Int)), Tag.cl) = _
  congr 3
  split <;> omega
theorem ix4 {most lap : Nat} (h : lap < 4) {env : En} {S : SS} {i j : Nat} (hi : env[i]? = some (.cl (nD most))) (hj : env[j]? = some (.cl (nD lap))) : ∃ w : Nat, eBin oIxA (eLst (dCons (eVar i) (dCons (eC (.int 14)) (dCons (eC (.int 8)) (dCons (eC (.int 6)) dNil))))) (eVar j) env S = some (nD w, .cl, S) := by
  have h1 : eLst (dCons (eVar i) (dCons (eC (.int 14)) (dCons (eC (.int 8)) (dCons (eC (.int 6)) dNil)))) env S = some (.list ([most, 14, 8, 6].map nD), .fr, S) := by
    unfold eLst dCons eVar
    rw [hi]; rfl
  have h2 : eVar j env S = some (nD lap, .cl, S) := by unfold eVar; rw [hj]
  refine ⟨([most, 14, 8, 6])[lap]'(by simpa using h), eBin_at h1 h2 rfl ?_⟩
  show (atI ([most, 14, 8, 6].map nD) (lap : Int)).map (fun d => (d, Tag.cl)) = _
  rw [atI_at, List.getElem?_map, List.getElem?_eq_getElem (by simpa using h)]; rfl
theorem lap_room {v most x : Nat} (hv : 1 ≤ v) (hv2 : v ≤ most) (hx : x ≤ max 1 (most / v)) : v * x ≤ most := by
  have h1 : v * x ≤ v * max 1 (most / v) := Nat.mul_le_mul_left _ hx
  have h2 : v * (most / v) ≤ most := Nat.mul_div_le most v
  rcases Nat.le_total 1 (most / v) with h | h
  · rw [Nat.max_eq_right h] at h1; omega
  · rw [Nat.max_eq_left h] at h1; omega
def LapI (m most : Nat) (done : List Nat) (env : En) (S : SS) : Prop := ∃ (s : Src) (l : List Nat) (s4 s5 s6 s7 : Sl), S = some s ∧ env = [.sr, .cl (nD m), .cl (nD most), .ow (.list (l.map nD)), s4, s5, s6, s7] ∧ Cl s5 ∧ Cl s6 ∧ Cl s7 ∧ l.length = done.length ∧ (∀ x ∈ l, 1 ≤ x) ∧ vol l ≤ most
def lapB : SD := (sSeq (sSet 5 (eC (.int (1)))) (sFz 5 (sSeq (sProd 3 5 6) (sFz 5 (sFz 6 (sSeq (sSet 7 (eCall fMin (dCons (eBin oDiv (eVar 2) (eVar 5)) (dCons (eBin oIxA (eLst (dCons (eVar 2) (dCons (eC (.int (14))) (dCons (eC (.int (8))) (dCons (eC (.int (6))) (dNil)))))) (eVar 4)) (dNil))))) (sFz 7 (sSeq (sSet 6 (eBin oAdd (eC (.int (1))) (eFn fPick (dCons (eVar 0) (dCons (eCall fMax (dCons (eC (.int (1))) (dCons (eVar 7) (dNil)))) (dNil)))))) (sFz 6 (sApp 3 (eIf (bT (eBin oEq (eFn fPick (dCons (eVar 0) (dCons (eC (.int (5))) (dNil)))) (eC (.int (0))))) (eCall fMax (dCons (eC (.int (1))) (dCons (eBin oSub (eVar 6) (eBin oMod (eCall fInt (dCons (eVar 6) (dNil))) (eVar 1))) (dNil)))) (eVar 6))))))))))))
theorem lap_step {m most : Nat} (hm : 2 ≤ m) (hm9 : m ≤ 9) (hmost : most ≤ 1500) {p : List Nat} {a : Nat} {env : En} {S : SS} (ha : a < 4) (hp : p.length < 4) (hI : LapI m most p env S) :
    ∃ env1, (Tg.n 4).set (nD a) env = some env1 ∧ ∃ env2 S2, lapB env1 S = some (.nx env2 S2) ∧ LapI m most (p ++ [a]) env2 S2 := by
  obtain ⟨s, l, s4, s5, s6, s7, rfl, rfl, h5, h6, h7, hl, hpos, hvol⟩ := hI
  have hv1 : 1 ≤ vol l := by have := vol_pos l [] (Nat.le_refl 1) hpos; simpa using this
  have hB : Bx l := ⟨hpos, Nat.le_trans hvol hmost⟩
  refine ⟨[.sr, .cl (nD m), .cl (nD most), .ow (.list (l.map nD)), .cl (nD a), s5, s6, s7], rfl, ?_⟩
  unfold lapB
  rw [sSeq_nx (s := some s) (sSet_cl (d := .int 1) rfl (by simp))]
  show ∃ env2 S2, sSeq _ _ [.sr, .cl (nD m), .cl (nD most), .ow (.list (l.map nD)), .cl (nD a), .cl (.int 1), s6, s7] (some s) = _ ∧ _
  obtain ⟨s6', h6', hpr⟩ := prod_at (s0 := .sr) (s1 := .cl (nD m)) (s2 := .cl (nD most)) (s4 := .cl (nD a)) (s7 := s7) (S := some s) (l := l) (fun x hx => hB.side' hx) h6
  rw [sSeq_nx hpr]
  have hz : ∀ rest : SD, sFz 5 (sFz 6 rest) [.sr, .cl (nD m), .cl (nD most), .ow (.list (l.map nD)), .cl (nD a), .cl (nD (vol l)), s6', s7] (some s) = rest [.sr, .cl (nD m), .cl (nD most), .ow (.list (l.map nD)), .cl (nD a), .cl (nD (vol l)), s6', s7] (some s) := by
    intro rest
    rcases h6' with rfl | ⟨d, rfl⟩ <;> rfl
  rw [hz]
  obtain ⟨w, hw⟩ := ix4 (S := some s) (env := [.sr, .cl (nD m), .cl (nD most), .ow (.list (l.map nD)), .cl (nD a), .cl (nD (vol l)), s6', s7]) (i := 2) (j := 4) ha rfl rfl
  rw [sSeq_nx (s := some s) (sSet_cl (eCall_at (s := some s) (r := [(nD (most / vol l), .cl), (nD w, .cl)]) (dCons_at (s := some s) (eBin_at (s := some s) (s' := some s) rfl rfl rfl (oDiv_nat hv1 (by omega) .cl .cl)) (dCons_at (s := some s) hw rfl)) rfl (fMin_nat _ _ _ _)) (by simp))]
  show ∃ env2 S2, sSeq _ _ [.sr, .cl (nD m), .cl (nD most), .ow (.list (l.map nD)), .cl (nD a), .cl (nD (vol l)), s6', .cl (nD (min w (most / vol l)))] (some s) = _ ∧ _
  have hhi : max (min w (most / vol l)) 1 ≤ max 1 (most / vol l) := by omega
  have hdiv : most / vol l ≤ most := Nat.div_le_self _ _
  obtain ⟨r, s', hr, hr2⟩ := pickE (S := some s) (s := s) (env := [.sr, .cl (nD m), .cl (nD most), .ow (.list (l.map nD)), .cl (nD a), .cl (nD (vol l)), s6', .cl (nD (min w (most / vol l)))]) (ms := dCons (eVar 0) (dCons (eCall fMax (dCons (eC (.int (1))) (dCons (eVar 7) (dNil)))) (dNil))) (many := max (min w (most / vol l)) 1)
    (dCons_at (s := some s) rfl (dCons_at (s := some s) (eCall_at (s := some s) (r := [(nD 1, .cl), (nD (min w (most / vol l)), .cl)]) rfl rfl (fMax_nat _ _ _ _)) rfl)) (by omega) (by omega)
  rw [sSeq_nx (s := some s') (sSet_cl (eBin_at (s := some s) (s' := some s') (d := nD 1) (f := nD (1 + r)) (v := .cl) rfl hr rfl (by show some (PyData.int (1 + (r : Int)), Tag.cl) = _; rw [show (1 + (r : Int)) = ((1 + r : Nat) : Int) from by omega])) (by simp))]
  show ∃ env2 S2, sApp 3 _ [.sr, .cl (nD m), .cl (nD most), .ow (.list (l.map nD)), .cl (nD a), .cl (nD (vol l)), .cl (nD (1 + r)), .cl (nD (min w (most / vol l)))] (some s') = _ ∧ _
  obtain ⟨q, s2, hq, hq2⟩ := pickE (S := some s') (s := s') (env := [.sr, .cl (nD m), .cl (nD most), .ow (.list (l.map nD)), .cl (nD a), .cl (nD (vol l)), .cl (nD (1 + r)), .cl (nD (min w (most / vol l)))]) (ms := dCons (eVar 0) (dCons (eC (.int (5))) (dNil))) (many := 5) rfl (by omega) (by omega)
  have hside : ∃ x : Nat, 1 ≤ x ∧ x ≤ 1 + r ∧ (eIf (bT (eBin oEq (eFn fPick (dCons (eVar 0) (dCons (eC (.int (5))) (dNil)))) (eC (.int (0))))) (eCall fMax (dCons (eC (.int (1))) (dCons (eBin oSub (eVar 6) (eBin oMod (eCall fInt (dCons (eVar 6) (dNil))) (eVar 1))) (dNil)))) (eVar 6)) [.sr, .cl (nD m), .cl (nD most), .ow (.list (l.map nD)), .cl (nD a), .cl (nD (vol l)), .cl (nD (1 + r)), .cl (nD (min w (most / vol l)))] (some s') = some (nD x, .cl, some s2) := by
    by_cases h0 : q = 0
    · have hle : (1 + r) % m ≤ 1 + r := Nat.mod_le _ _
      refine ⟨max ((1 + r) - (1 + r) % m) 1, by omega, by omega, (eIf_t (s := some s2) (bT_at (eBin_at (s := some s2) (s' := some s2) hq rfl rfl ((oEq_nat q 0 _ .cl).trans (by rw [h0]; rfl))))).trans ?_⟩
      refine eCall_at (s := some s2) (r := [(nD 1, .cl), (nD ((1 + r) - (1 + r) % m), .cl)]) (dCons_at (s := some s2) rfl (dCons_at (s := some s2) (eBin_at (s := some s2) (s' := some s2) (d := nD (1 + r)) (t := .cl) rfl (eBin_at (s := some s2) (s' := some s2) (d := nD (1 + r)) (t := .cl) rfl rfl rfl (oMod_nat (by omega) .cl .cl)) rfl (f := nD ((1 + r) - (1 + r) % m)) (v := .cl) ?_) rfl)) rfl (fMax_nat _ _ _ _)
      show some (PyData.int (((1 + r : Nat) : Int) - (((1 + r) % m : Nat) : Int)), Tag.cl) = _
      rw [← Int.ofNat_sub hle]
    · refine ⟨1 + r, by omega, by omega, (eIf_f (s := some s2) (bT_at (eBin_at (s := some s2) (s' := some s2) hq rfl rfl ((oEq_nat q 0 _ .cl).trans (by rw [beq_eq_false_iff_ne.mpr h0]))))).trans rfl⟩
  obtain ⟨x, hx1, hx2, hx⟩ := hside
  unfold sApp
  rw [hx]
  have hlen : (l.map nD).length < 16777216 := by rw [List.length_map]; omega
  refine ⟨[.sr, .cl (nD m), .cl (nD most), .ow (.list ((l ++ [x]).map nD)), .cl (nD a), .cl (nD (vol l)), .cl (nD (1 + r)), .cl (nD (min w (most / vol l)))], some s2, ?_, s2, l ++ [x], _, _, _, _, rfl, rfl, .inr ⟨_, rfl⟩, .inr ⟨_, rfl⟩, .inr ⟨_, rfl⟩, by simp [hl], ?_, ?_⟩
  · show (if Tag.cln .cl && decide ((l.map nD).length < 16777216) then some (Out.nx [.sr, .cl (nD m), .cl (nD most), .ow (.list (l.map nD ++ [nD x])), .cl (nD a), .cl (nD (vol l)), .cl (nD (1 + r)), .cl (nD (min w (most / vol l)))] (some s2)) else none) = _
    rw [decide_eq_true hlen, if_pos (show (Tag.cln .cl && true) = true from rfl), List.map_append]; rfl
  · intro y hy
    rcases List.mem_append.mp hy with h | h
    · exact hpos y h
    · rw [List.mem_singleton.mp h]; exact hx1
  · rw [vol_snoc]
    exact lap_room hv1 hvol (by omega)
theorem v_law_box {m most : Nat} (hm : 2 ≤ m) (hm9 : m ≤ 9) (h1 : 1 ≤ most) (hmost : most ≤ 1500) (s : Src) : ∃ (box : List Nat) (s' : Src), runF 8 d__law_box [none, some (nD m), some (nD most)] (some s) = some (TN box, .cl, some s') ∧ Bx box ∧ box.length ≤ 4 := by
  obtain ⟨r, s1, hr, hr2⟩ := pickE (S := some s) (s := s) (env := [.sr, .cl (nD m), .cl (nD most), .ow (.list []), .un, .un, .un, .un]) (ms := dCons (eVar 0) (dCons (eC (.int (4))) (dNil))) (many := 4) rfl (by omega) (by omega)
  have H := sFor_goS (g := .n 4) (body := lapB) (rest := sFz 7 (sFz 5 (sFz 6 (sFz 3 (sRet (eCall fTuple (dCons (eVar 3) (dNil)))))))) (it := iRan1 (dCons (eBin oAdd (eC (.int (1))) (eFn fPick (dCons (eVar 0) (dCons (eC (.int (4))) (dNil))))) (dNil))) (env := [.sr, .cl (nD m), .cl (nD most), .ow (.list []), .un, .un, .un, .un]) (S := some s) (S1 := some s1) (f := nD) (LapI m most) (List.range (1 + r))
    (ran1_at (n := 1 + r) (t := .cl) (dCons_at (s := some s1) (eBin_at (s := some s) (s' := some s1) (d := nD 1) (f := nD (1 + r)) (v := .cl) rfl hr rfl (by show some (PyData.int (1 + (r : Int)), Tag.cl) = _; rw [show (1 + (r : Int)) = ((1 + r : Nat) : Int) from by omega])) rfl) rfl (by omega))
    ⟨s1, [], .un, .un, .un, .un, rfl, rfl, .inl rfl, .inl rfl, .inl rfl, rfl, (fun _ h => by cases h), h1⟩
    (fun p a r' env S e hI => lap_step hm hm9 hmost (by have := range_at e; omega) (by
      have := congrArg List.length e
      rw [List.length_range, List.length_append, List.length_cons] at this
      omega) hI)
  obtain ⟨env', S', ⟨s', l, s4, s5, s6, s7, rfl, rfl, h5, h6, h7, hl, hpos, hvol⟩, H⟩ := H
  refine ⟨l, s', ?_, ⟨hpos, Nat.le_trans hvol hmost⟩, by rw [hl, List.length_range]; omega⟩
  refine runF_rt (env := [.sr, .cl (nD m), .cl (nD most), .un, .un, .un, .un, .un]) rfl ?_
  refine (sSeq_nx (s := some s) (sSet_fr (d := .list []) rfl (by simp))).trans ?_
  refine Eq.trans H ?_
  rcases h5 with rfl | ⟨d5, rfl⟩ <;> rcases h6 with rfl | ⟨d6, rfl⟩ <;> rcases h7 with rfl | ⟨d7, rfl⟩ <;> rfl
end G86

namespace G86
open PySem L2 Ev

/-! ### what is shown -/
theorem sok_app {x y : Str} (hx : PyData.strOk x = true) (hy : PyData.strOk y = true) : PyData.strOk (x ++ y) = true := by
  unfold PyData.strOk at *
  show (x.cps ++ y.cps).all _ = true
  rw [Array.all_append, hx, hy]; rfl
theorem sok_of (s : String) : PyData.strOk (Str.ofString s) = true := by
  unfold PyData.strOk
  rw [Str.ofString_eq_toList]
  show (s.toList.map Char.toNat).toArray.all _ = true
  rw [List.all_toArray, List.all_eq_true]
  intro n hn
  obtain ⟨c, _, rfl⟩ := List.mem_map.mp hn
  have h := c.valid
  refine decide_eq_true ?_
  show c.val.toNat < 1114112
  rcases h with h | h
  · have : c.val.toNat < 0xd800 := h
    omega
  · exact h.2
theorem sok_nil : PyData.strOk Str.empty = true := by decide +kernel
theorem sok_join {sep : Str} (hs : PyData.strOk sep = true) : ∀ ts : List Str, (∀ t ∈ ts, PyData.strOk t = true) → PyData.strOk (Str.join sep ts) = true
  | [], _ => sok_nil
  | [x], h => h x List.mem_cons_self
  | x :: y :: r, h => sok_app (sok_app (h x List.mem_cons_self) hs) (sok_join hs (y :: r) fun t ht => h t (List.mem_cons_of_mem _ ht))
theorem sok_tup {ts : List Str} (h : ∀ t ∈ ts, PyData.strOk t = true) : PyData.strOk (tupleText ts) = true := by
  unfold tupleText
  exact sok_app (sok_app (sok_of _) (sok_join (sok_of _) ts h)) (sok_of _)
theorem sok_all (l : List PyData) (h : ∀ d ∈ l, PyData.strOk d.shown = true) : ∀ t ∈ PyData.shownAll l, PyData.strOk t = true := by
  induction l with
  | nil => intro t ht; exact nomatch ht
  | cons d r ih =>
    intro t ht
    rcases List.mem_cons.mp ht with h' | h'
    · rw [h']; exact h d List.mem_cons_self
    · exact ih (fun d hd => h d (List.mem_cons_of_mem _ hd)) t h'
theorem sok_tuple (l : List PyData) (h : ∀ d ∈ l, PyData.strOk d.shown = true) : PyData.strOk (PyData.tuple l).shown = true := sok_tup (sok_all l h)
theorem sok_nD (n : Nat) : PyData.strOk (nD n).shown = true := sok_of _
theorem sok_TN (c : List Nat) : PyData.strOk (TN c).shown = true := sok_tuple _ fun d hd => by obtain ⟨n, _, rfl⟩ := List.mem_map.mp hd; exact sok_nD n
theorem sok_bar (k : Nat) (c : List Nat) : PyData.strOk (barD k c).shown = true := sok_tuple _ fun d hd => by
  rcases List.mem_cons.mp hd with rfl | hd
  · exact sok_TN c
  · rw [List.mem_singleton.mp hd]; exact sok_nD k
theorem sok_BT (m k : Nat) (box : List Nat) : PyData.strOk (BT m k box).shown = true := sok_tuple _ fun d hd => by obtain ⟨n, _, rfl⟩ := List.mem_map.mp hd; exact sok_bar k n
theorem sok_lay : PyData.strOk (PyData.str "laying").shown = true := by decide +kernel
theorem sok_col : PyData.strOk (PyData.str "colours").shown = true := by decide +kernel
theorem sok_PL (m k : Nat) (box : List Nat) : PyData.strOk (PL m k box).shown = true := sok_tuple _ fun d hd => by
  rcases List.mem_cons.mp hd with rfl | hd
  · exact sok_lay
  · rw [List.mem_singleton.mp hd]; exact sok_BT m k box
theorem sok_PC (n : Nat) : PyData.strOk (PC n).shown = true := sok_tuple _ fun d hd => by
  rcases List.mem_cons.mp hd with rfl | hd
  · exact sok_col
  rcases List.mem_cons.mp hd with rfl | hd
  · exact sok_nD 0
  · rw [List.mem_singleton.mp hd]; exact sok_nD n
/-- small data -/
structure Sm (k : Nat) (d : PyData) : Prop where
  lay : d.canLay0 = true
  dep : d.depth ≤ 10
  sho : d.showable = true
  lvs : d.leavesShort 13 = true
  wgt : d.weight ≤ k
theorem Sm.nD {n : Nat} (h : n < 10000) : Sm 14 (nD n) := by
  have hl : n.log2 < 14 := by
    rcases Nat.eq_zero_or_pos n with h0 | h0
    · subst h0; decide
    · exact (Nat.log2_lt (by omega)).mpr (by omega)
  refine ⟨rfl, by show 0 ≤ 10; omega, ?_, ?_, ?_⟩
  · show decide ((n : Int).natAbs.log2 < 1920) = true
    refine decide_eq_true ?_
    rw [Int.natAbs_natCast]; omega
  · show decide ((PyData.shown (.int (n : Int))).length ≤ 13) = true
    exact decide_eq_true (PyData.shown_int_le (by rw [Int.natAbs_natCast]; omega))
  · show (if (n : Int) == 0 then 0 else (n : Int).natAbs.log2 + 1) ≤ 14
    rw [Int.natAbs_natCast]
    split <;> omega
theorem sm_list {k : Nat} : ∀ l : List PyData, (∀ d ∈ l, Sm k d ∧ d.depth ≤ 9) → PyData.canLayAll0 l = true ∧ PyData.depthAll l ≤ 9 ∧ PyData.showableAll l = true ∧ PyData.leavesShortAll 13 l = true ∧ PyData.weightAll l ≤ l.length * (k + 1)
  | [], _ => ⟨rfl, by show 0 ≤ 9; omega, rfl, rfl, by show 0 ≤ _; omega⟩
  | d :: r, h => by
    obtain ⟨h1, h2, h3, h4, h5⟩ := sm_list r fun d hd => h d (List.mem_cons_of_mem _ hd)
    obtain ⟨⟨a1, a2, a3, a4, a5⟩, a6⟩ := h d List.mem_cons_self
    refine ⟨?_, ?_, ?_, ?_, ?_⟩
    · rw [PyData.canLayAll0, a1, h1]; rfl
    · rw [PyData.depthAll]; omega
    · rw [PyData.showableAll, a3, h3]; rfl
    · rw [PyData.leavesShortAll, a4, h4]; rfl
    · rw [PyData.weightAll, List.length_cons, Nat.add_mul, Nat.one_mul]; omega
theorem Sm.tuple {k n : Nat} {l : List PyData} (h : ∀ d ∈ l, Sm k d ∧ d.depth ≤ 9) (hn : l.length * (k + 1) ≤ n) : Sm n (.tuple l) := by
  obtain ⟨h1, h2, h3, h4, h5⟩ := sm_list l h
  exact ⟨by rw [PyData.canLay0]; exact h1, by rw [PyData.depth]; omega, by rw [PyData.showable]; exact h3, by rw [PyData.leavesShort]; exact h4, by rw [PyData.weight]; omega⟩
theorem Sm.mono {k n : Nat} {d : PyData} (h : Sm k d) (hn : k ≤ n) : Sm n d := ⟨h.lay, h.dep, h.sho, h.lvs, Nat.le_trans h.wgt hn⟩
theorem repr_at {d : PyData} (h : Sm 1000000 d) (t : Tag) : fRepr [(d, t)] = some (.str d.shown, .cl) := by
  show (if SeqAt.shaped d && PyData.showable d && decide (d.shown.length ≤ 16777216) then some (PyData.str d.shown, Tag.cl) else none) = _
  have h1 : SeqAt.shaped d = true := by unfold SeqAt.shaped; rw [h.lay, Bool.true_and]; exact decide_eq_true (by have := h.dep; omega)
  have h2 := PyData.shown_le 13 (by decide) d h.lvs
  have := h.wgt
  rw [if_pos (by rw [h1, h.sho, Bool.true_and, Bool.true_and]; exact decide_eq_true (by omega))]
theorem depth_TN (c : List Nat) : (TN c).depth = 1 := by
  show PyData.depthAll (c.map nD) + 1 = 1
  rw [(lay_TN c).2]
theorem depth_bar (k : Nat) (c : List Nat) : (barD k c).depth = 2 := by
  show max ((TN c).depth) (max (PyData.depth (nD k)) 0) + 1 = 2
  rw [depth_TN]; rfl
theorem sm_TN {c : List Nat} (h : ∀ n ∈ c, n < 10000) (hl : c.length ≤ 9) : Sm 135 (TN c) := Sm.tuple (k := 14) (fun d hd => by obtain ⟨n, hn, rfl⟩ := List.mem_map.mp hd; exact ⟨Sm.nD (h n hn), by show 0 ≤ 9; omega⟩) (by rw [List.length_map]; omega)
theorem sm_bar {k : Nat} {c : List Nat} (h : ∀ n ∈ c, n < 10000) (hl : c.length ≤ 9) (hk : k < 10000) : Sm 272 (barD k c) := Sm.tuple (k := 135) (fun d hd => by
  rcases List.mem_cons.mp hd with rfl | hd
  · exact ⟨sm_TN h hl, by rw [depth_TN]; omega⟩
  · rw [List.mem_singleton.mp hd]; exact ⟨(Sm.nD hk).mono (by omega), by show 0 ≤ 9; omega⟩) (by show 2 * 136 ≤ 272; omega)
theorem shown_eq_str {x : Str} (h : PyData.strOk x = true) (t u : Tag) : oNe (.str x) t (.str x) u = some (.bool false, .cl) := by
  unfold oNe
  have h1 : SeqAt.shaped (.str x) = true := by unfold SeqAt.shaped; rw [show PyData.canLay0 (.str x) = PyData.strOk x from by rw [PyData.canLay0], h]; rfl
  have h2 : PyData.eqv (.str x) (.str x) = true := by rw [PyData.eqv]; exact beq_self_eq_true x
  rw [h1, if_pos (show (true && true) = true from rfl), h2]; rfl
theorem sm_BT {m k : Nat} {box : List Nat} (hb : Bx box) (hd : box.length ≤ 4) (hk : k < box.length) : Sm 450000 (BT m k box) := by
  have hB := bars_le (m := m) (k := k) hb
  refine Sm.tuple (k := 272) (fun d hd' => ?_) (by rw [List.length_map]; have : (bars m k box).length * 273 ≤ 1500 * 273 := Nat.mul_le_mul_right _ hB; omega)
  obtain ⟨c, hc, rfl⟩ := List.mem_map.mp hd'
  have ho := (mem_bars.mp hc).1
  refine ⟨sm_bar (fun n hn => ?_) (by rw [ho.1]; omega) (by omega), by rw [depth_bar]; omega⟩
  obtain ⟨i, hi, rfl⟩ := List.mem_iff_getElem.mp hn
  have h1 := ho.2 i (by rw [← ho.1]; exact hi)
  have h2 : box.getD i 0 ≤ 1500 := by
    have hi2 : i < box.length := by rw [← ho.1]; exact hi
    rw [List.getD_eq_getElem?_getD, List.getElem?_eq_getElem hi2]
    exact hb.side' (List.getElem_mem hi2)
  rw [List.getD_eq_getElem?_getD, List.getElem?_eq_getElem hi] at h1
  simp only [Option.getD_some] at h1
  omega
theorem sm_lay : Sm 450000 (.str "laying") := ⟨by decide +kernel, by decide +kernel, by decide +kernel, by decide +kernel, by decide +kernel⟩
theorem sm_col : Sm 450000 (.str "colours") := ⟨by decide +kernel, by decide +kernel, by decide +kernel, by decide +kernel, by decide +kernel⟩
theorem depthAll_le {e : Nat} : ∀ l : List PyData, (∀ d ∈ l, d.depth ≤ e) → PyData.depthAll l ≤ e
  | [], _ => by show 0 ≤ e; omega
  | d :: r, h => by
    have h1 := depthAll_le r fun d hd => h d (List.mem_cons_of_mem _ hd)
    have h2 := h d List.mem_cons_self
    rw [PyData.depthAll]; omega
theorem depth_BT (m k : Nat) (box : List Nat) : (BT m k box).depth ≤ 3 := by
  have := depthAll_le (e := 2) ((bars m k box).map (barD k)) fun d hd => by obtain ⟨c, _, rfl⟩ := List.mem_map.mp hd; rw [depth_bar]; omega
  unfold BT
  rw [PyData.depth]; omega
theorem sm_PL {m k : Nat} {box : List Nat} (hb : Bx box) (hd : box.length ≤ 4) (hk : k < box.length) : Sm 1000000 (PL m k box) := Sm.tuple (k := 450000) (fun d hd' => by
  rcases List.mem_cons.mp hd' with rfl | hd'
  · exact ⟨sm_lay, by decide +kernel⟩
  · rw [List.mem_singleton.mp hd']; exact ⟨sm_BT hb hd hk, by have := depth_BT m k box; omega⟩) (by show 2 * 450001 ≤ 1000000; omega)
theorem sm_PC {n : Nat} (h : n < 10000) : Sm 1000000 (PC n) := by
  have hc : Sm 300000 (.str "colours") := ⟨by decide +kernel, by decide +kernel, by decide +kernel, by decide +kernel, by decide +kernel⟩
  refine Sm.tuple (k := 300000) (fun d hd => ?_) (by show 3 * 300001 ≤ 1000000; omega)
  rcases List.mem_cons.mp hd with rfl | hd
  · exact ⟨hc, by decide +kernel⟩
  rcases List.mem_cons.mp hd with rfl | hd
  · exact ⟨(Sm.nD (n := 0) (by omega)).mono (by omega), by show 0 ≤ 9; omega⟩
  · rw [List.mem_singleton.mp hd]; exact ⟨(Sm.nD h).mono (by omega), by show 0 ≤ 9; omega⟩
end G86

namespace G86
open PySem L2 Ev

theorem chk_m {m : Nat} (h1 : 2 ≤ m) (h2 : m ≤ 9) : chk m 4 (pat0 m) false = true := by
  rcases (by omega : m = 2 ∨ m = 3 ∨ m = 4 ∨ m = 5 ∨ m = 6 ∨ m = 7 ∨ m = 8 ∨ m = 9) with rfl | rfl | rfl | rfl | rfl | rfl | rfl | rfl
  · exact chk_small.1
  · exact chk_small.2.1
  · exact chk_small.2.2.1
  · exact chk_small.2.2.2
  · exact chk_big.1
  · exact chk_big.2
  · exact chk_8
  · exact chk_9
theorem pat_all {m : Nat} {box : List Nat} (h1 : 2 ≤ m) (h2 : m ≤ 9) (hd : box.length ≤ 4) : allEq (pat m box) = box.any (fun s => s % m == 0) := by
  have := chk_at (m := m) (by omega) 4 (pat0 m) false box (chk_m h1 h2) hd
  rw [Bool.false_or] at this
  exact this
theorem pat_len {m : Nat} (hm : 1 ≤ m) (box : List Nat) : (pat m box).length = m := by
  suffices H : ∀ (r p : List Nat), (pat m p).length = m → (pat m (p ++ r)).length = m by
    have := H box [] (by show (pat0 m).length = m; unfold pat0; simp; omega)
    simpa using this
  intro r
  induction r with
  | nil => intro p h; simpa using h
  | cons a r ih =>
    intro p h
    have := ih (p ++ [a]) (by unfold pat; rw [List.foldl_append]; show (stepR m _ _).length = m; unfold stepR; simp)
    simpa using this
theorem row_yes {m : Nat} {box : List Nat} (h1 : 2 ≤ m) (h2 : m ≤ 9) (hd : box.length ≤ 4) (h : box.any (fun s => s % m == 0) = true) : ∀ c, c < m → cnt m (cells box) c = cnt m (cells box) 0 := by
  intro c hc
  obtain ⟨K, hK⟩ := fits_cells (m := m) (by omega) box
  have ha := pat_all h1 h2 hd
  rw [h] at ha
  unfold allEq at ha
  have hl := pat_len (m := m) (by omega) box
  have hc' : c < (pat m box).length := by omega
  have := List.all_eq_true.mp ha ((pat m box)[c]) (List.getElem_mem hc')
  rw [hK c hc, hK 0 (by omega), List.getD_eq_getElem?_getD, List.getElem?_eq_getElem hc']
  simp only [Option.getD_some]
  rw [beq_iff_eq.mp this]
theorem row_no {m : Nat} {box : List Nat} (h1 : 2 ≤ m) (h2 : m ≤ 9) (hd : box.length ≤ 4) (h : box.any (fun s => s % m == 0) = false) : ∃ c, c < m ∧ cnt m (cells box) c ≠ cnt m (cells box) 0 := by
  obtain ⟨K, hK⟩ := fits_cells (m := m) (by omega) box
  have ha := pat_all h1 h2 hd
  rw [h] at ha
  unfold allEq at ha
  have hl := pat_len (m := m) (by omega) box
  obtain ⟨x, hx, hne⟩ := List.all_eq_false.mp ha
  obtain ⟨c, hc, rfl⟩ := List.mem_iff_getElem.mp hx
  refine ⟨c, by omega, fun e => hne ?_⟩
  rw [hK c (by omega), hK 0 (by omega), List.getD_eq_getElem?_getD, List.getElem?_eq_getElem hc] at e
  simp only [Option.getD_some] at e
  exact beq_iff_eq.mpr (by omega)
theorem srt_one {a : Int} : ∀ l : List Int, (∀ x ∈ l, x = a) → l ≠ [] → srtU l = [a]
  | [], _, h => absurd rfl h
  | [x], h, _ => by rw [h x List.mem_cons_self]; rfl
  | x :: y :: r, h, _ => by
    have := srt_one (a := a) (y :: r) (fun z hz => h z (List.mem_cons_of_mem _ hz)) (by simp)
    show insU x (srtU (y :: r)) = [a]
    rw [this, h x List.mem_cons_self]
    show (if a < a then _ else if a = a then [a] else _) = [a]
    rw [if_neg (by omega), if_pos rfl]
theorem srt_many {l : List Int} {x y : Int} (hx : x ∈ l) (hy : y ∈ l) (hne : x ≠ y) : (srtU l).length ≠ 1 := by
  intro e
  obtain ⟨z, hz⟩ := List.length_eq_one_iff.mp e
  have h1 := srtU_mem.mpr hx
  have h2 := srtU_mem.mpr hy
  rw [hz, List.mem_singleton] at h1 h2
  exact hne (h1.trans h2.symm)
/-- whether the sorted set of the colours' numbers has one member -/
theorem srt_at {m : Nat} {box : List Nat} (h1 : 2 ≤ m) (h2 : m ≤ 9) (hd : box.length ≤ 4) : ((srtU ((rowOf m (cells box)).map Int.ofNat)).length == 1) = box.any (fun s => s % m == 0) := by
  cases h : box.any (fun s => s % m == 0) with
  | true =>
    rw [srt_one (a := Int.ofNat (cnt m (cells box) 0))]
    · rfl
    · intro x hx
      obtain ⟨n, hn, rfl⟩ := List.mem_map.mp hx
      unfold rowOf at hn
      obtain ⟨c, hc, rfl⟩ := List.mem_map.mp hn
      rw [row_yes h1 h2 hd h c (List.mem_range.mp hc)]
    · unfold rowOf
      intro e
      have := congrArg List.length e
      simp at this
      omega
  | false =>
    obtain ⟨c, hc, hne⟩ := row_no h1 h2 hd h
    refine beq_eq_false_iff_ne.mpr (srt_many (x := Int.ofNat (cnt m (cells box) c)) (y := Int.ofNat (cnt m (cells box) 0)) ?_ ?_ (fun e => hne (Int.ofNat.inj e)))
    · exact List.mem_map_of_mem (List.mem_map_of_mem (List.mem_range.mpr hc))
    · exact List.mem_map_of_mem (List.mem_map_of_mem (List.mem_range.mpr (by omega)))
theorem first_of {m : Nat} {box : List Nat} (h1 : 2 ≤ m) (h2 : m ≤ 9) (hd : box.length ≤ 4) (h : box.any (fun s => s % m == 0) = false) : ∃ d rest, (List.range m).filter (fun d => !(cnt m (cells box) d == cnt m (cells box) 0)) = d :: rest ∧ 0 < d ∧ d < m ∧ cnt m (cells box) 0 ≠ cnt m (cells box) d := by
  obtain ⟨c, hc, hne⟩ := row_no h1 h2 hd h
  have hm : c ∈ (List.range m).filter (fun d => !(cnt m (cells box) d == cnt m (cells box) 0)) := List.mem_filter.mpr ⟨List.mem_range.mpr hc, by simpa using hne⟩
  cases e : (List.range m).filter (fun d => !(cnt m (cells box) d == cnt m (cells box) 0)) with
  | nil => rw [e] at hm; cases hm
  | cons d rest =>
    have hd' : d ∈ (List.range m).filter (fun d => !(cnt m (cells box) d == cnt m (cells box) 0)) := by rw [e]; exact List.mem_cons_self
    obtain ⟨a1, a2⟩ := List.mem_filter.mp hd'
    have a3 : cnt m (cells box) d ≠ cnt m (cells box) 0 := by simpa using a2
    refine ⟨d, rest, rfl, ?_, List.mem_range.mp a1, Ne.symm a3⟩
    rcases Nat.eq_zero_or_pos d with h0 | h0
    · subst h0; exact absurd rfl a3
    · exact h0

structure Paper (m : Nat) (box : List Nat) (told : PyData) (laid : Bool) (x : Str) : Prop where
  paper : ∀ S, runF 7 d_box_paper [some (TN box), some (nD m)] S = some (told, .cl, S)
  fault : ∀ S, runF 5 d__law_box_fault [some (TN box), some (nD m), some told] S = some (.none, .cl, S)
  judge : ∀ S, runF 6 d_judge_box [some (TN box), some (nD m), some told] S = some (.none, .cl, S)
  sm : Sm 1000000 told
  sok : PyData.strOk told.shown = true
  head : ∀ t u, oIxA told t (.int 0) u = some (.str x, .cl)
  word : ∀ t u, oEq (.str x) t (.str "laying") u = some (.bool laid, .cl)
theorem split_first {m : Nat} : ∀ box : List Nat, box.any (fun s => s % m == 0) = true → ∃ p s r, box = p ++ s :: r ∧ (∀ x ∈ p, x % m ≠ 0) ∧ s % m = 0
  | [], h => nomatch h
  | a :: r, h => by
    by_cases q : a % m = 0
    · exact ⟨[], a, r, rfl, (fun _ h => by cases h), q⟩
    · rw [List.any_cons, beq_eq_false_iff_ne.mpr q, Bool.false_or] at h
      obtain ⟨p, s, r', e, h1, h2⟩ := split_first r h
      refine ⟨a :: p, s, r', by rw [e]; rfl, fun x hx => ?_, h2⟩
      rcases List.mem_cons.mp hx with rfl | hx
      · exact q
      · exact h1 x hx
theorem paper_of {m : Nat} {box : List Nat} (h1 : 2 ≤ m) (h2 : m ≤ 9) (hb : Bx box) (hd : box.length ≤ 4) : ∃ told x, Paper m box told (box.any (fun s => s % m == 0)) x := by
  cases h : box.any (fun s => s % m == 0) with
  | true =>
    obtain ⟨p, s, r, e, hp, hs⟩ := split_first box h
    have hk : p.length < box.length := by rw [e]; simp
    have ho : BarOk m p.length box := ⟨hk, by omega, by rw [e, List.getD_eq_getElem?_getD, List.getElem?_append_right (Nat.le_refl _)]; simpa using hs⟩
    exact ⟨PL m p.length box, "laying", fun S => v_paper_lay hb hd (by omega) (by omega) e hp hs S, fun S => v_law_fault_lay hb hd ho (by omega) S, fun S => v_judge_lay hb hd ho (by omega) S, sm_PL hb hd hk, sok_PL _ _ _, fun _ _ => rfl, oEq_ll⟩
  | false =>
    obtain ⟨d, rest, e, h0, hdm, hne⟩ := first_of h1 h2 hd h
    have hp : ∀ x ∈ box, x % m ≠ 0 := fun x hx => by
      have := List.any_eq_false.mp h x hx
      simpa using this
    exact ⟨PC d, "colours", fun S => v_paper_col hb hd (by omega) (by omega) hp e S, fun S => v_law_fault_col hb hd (by omega) (by omega) h0 hdm hne S, fun S => v_judge_col hb hd (by omega) (by omega) h0 hdm hne S, sm_PC (by omega), sok_PC _, fun _ _ => rfl, oEq_cl⟩
theorem cnt_le (m : Nat) (L : List (List Nat)) (c : Nat) : cnt m L c ≤ L.length := List.countP_le_length
theorem sm_row {m : Nat} {box : List Nat} (hm : m ≤ 9) (hb : Bx box) : Sm 1000000 (TN (rowOf m (cells box))) := by
  refine (sm_TN (fun n hn => ?_) (by unfold rowOf; simpa using hm)).mono (by omega)
  unfold rowOf at hn
  obtain ⟨c, _, rfl⟩ := List.mem_map.mp hn
  have := cnt_le m (cells box) c
  rw [cells_length] at this
  have := hb.vol
  omega
theorem oNe_ints (l : List Nat) (t u : Tag) : oNe (.list (l.map nD)) t (.list []) u = some (.bool (!l.isEmpty), .cl) := by
  unfold oNe
  have h1 : SeqAt.shaped (.list (l.map nD)) = true := by
    unfold SeqAt.shaped
    rw [PyData.canLay0, PyData.depth, (lay_TN l).1, (lay_TN l).2]; rfl
  rw [h1, show SeqAt.shaped (.list []) = true from rfl, if_pos (show (true && true) = true from rfl)]
  cases l <;> rfl
theorem filter_any {m : Nat} : ∀ box : List Nat, (!(box.filter fun s => s % m == 0).isEmpty) = box.any (fun s => s % m == 0)
  | [] => rfl
  | a :: r => by
    rw [List.any_cons, List.filter_cons]
    cases h : (a % m == 0) with
    | true => rfl
    | false => rw [Bool.false_or, ← filter_any r]; rfl
theorem oNe_bb (a : Bool) (t u : Tag) : oNe (.bool a) t (.bool a) u = some (.bool false, .cl) := by cases a <;> rfl
theorem v_law_of (s : Src) : ∃ m s', runF 2 d__law_of [none, some (.list ([2, 2, 3, 3, 4, 5, 6, 7, 8, 9].map nD))] (some s) = some (nD m, .cl, some s') ∧ 2 ≤ m ∧ m ≤ 9 := by
  obtain ⟨r, s', hr, hr2⟩ := pickE (S := some s) (s := s) (env := [.sr, .cl (.list ([2, 2, 3, 3, 4, 5, 6, 7, 8, 9].map nD))]) (ms := dCons (eVar 0) (dCons (eCall fLen (dCons (eVar 1) (dNil))) (dNil))) (many := 10) rfl (by omega) (by omega)
  have hg : ([2, 2, 3, 3, 4, 5, 6, 7, 8, 9] : List Nat)[r]? = some (([2, 2, 3, 3, 4, 5, 6, 7, 8, 9] : List Nat)[r]'(by simpa using hr2)) := List.getElem?_eq_getElem _
  have hmem := List.getElem_mem (l := ([2, 2, 3, 3, 4, 5, 6, 7, 8, 9] : List Nat)) (n := r) (by simpa using hr2)
  refine ⟨_, s', runF_rt (env := [.sr, .cl (.list ([2, 2, 3, 3, 4, 5, 6, 7, 8, 9].map nD))]) rfl (sRet_cl (eBin_at (s := some s) (s' := some s') (d := .list ([2, 2, 3, 3, 4, 5, 6, 7, 8, 9].map nD)) (t := .cl) rfl hr rfl (f := nD (([2, 2, 3, 3, 4, 5, 6, 7, 8, 9] : List Nat)[r]'(by simpa using hr2))) (v := .cl) ?_)), ?_⟩
  · show (atI ([2, 2, 3, 3, 4, 5, 6, 7, 8, 9].map nD) (r : Int)).map (fun d => (d, Tag.cl)) = _
    rw [atI_at, List.getElem?_map, hg]; rfl
  · revert hmem
    generalize ([2, 2, 3, 3, 4, 5, 6, 7, 8, 9] : List Nat)[r]'(by simpa using hr2) = x
    intro hmem
    simp at hmem
    omega
end G86

namespace G86
open PySem L2 Ev

def lapL : SD := (sSeq (sSet 3 (eFn (runF 2 d__law_of) (dCons (eVar 1) (dCons (eLst (dCons (eC (.int (2))) (dCons (eC (.int (2))) (dCons (eC (.int (3))) (dCons (eC (.int (3))) (dCons (eC (.int (4))) (dCons (eC (.int (5))) (dCons (eC (.int (6))) (dCons (eC (.int (7))) (dCons (eC (.int (8))) (dCons (eC (.int (9))) (dNil)))))))))))) (dNil))))) (sFz 3 (sSeq (sSet 4 (eFn (runF 8 d__law_box) (dCons (eVar 1) (dCons (eVar 3) (dCons (eIf (bT (eBin oEq (eFn fPick (dCons (eVar 1) (dCons (eC (.int (30))) (dNil)))) (eC (.int (0))))) (eC (.int (1500))) (eC (.int (90)))) (dNil)))))) (sFz 4 (sSeq (sPar 5 6 (eFn (runF 4 d__law_row) (dCons (eFn (runF 6 d__law_box_cells) (dCons (eVar 4) (dNil))) (dCons (eVar 3) (dNil)))) (eFn (runF 7 d_box_paper) (dCons (eVar 4) (dCons (eVar 3) (dNil))))) (sFz 5 (sFz 6 (sSeq (sIf (bOr (bT (eBin oNe (eCall fRepr (dCons (eFn (runF 4 d_box_row) (dCons (eVar 4) (dCons (eVar 3) (dNil)))) (dNil))) (eCall fRepr (dCons (eVar 5) (dNil))))) (bT (eBin oNe (eCall fRepr (dCons (eFn (runF 7 d_box_paper) (dCons (eVar 4) (dCons (eVar 3) (dNil)))) (dNil))) (eCall fRepr (dCons (eVar 6) (dNil)))))) (sRet (eC (.bool false))) (sNil)) (sSeq (sIf (bOr (bT (eBin oIsNot (eFn (runF 5 d__law_box_fault) (dCons (eVar 4) (dCons (eVar 3) (dCons (eVar 6) (dNil))))) (eC .none))) (bT (eBin oIsNot (eFn (runF 6 d_judge_box) (dCons (eVar 4) (dCons (eVar 3) (dCons (eVar 6) (dNil))))) (eC .none)))) (sRet (eC (.bool false))) (sNil)) (sSeq (sSet 7 (eBin oNe (eLc [9] (iSeq Tag.rd (eVar 4)) (.n 9) (bT (eBin oEq (eBin oMod (eCall fInt (dCons (eVar 9) (dNil))) (eVar 3)) (eC (.int (0))))) (eVar 9)) (eLst (dNil)))) (sIf (bOr (bT (eBin oNe (eBin oEq (eBin oIxA (eVar 6) (eC (.int (0)))) (eC (.str "laying"))) (eVar 7))) (bT (eBin oNe (eBin oEq (eCall fLen (dCons (eSrtSet (eVar 5)) (dNil))) (eC (.int (1)))) (eVar 7)))) (sRet (eC (.bool false))) (sNil))))))))))))
def lastL : SD := (sSeq (sSet 8 (eLst (dCons (eBin oIxA (eFn (runF 7 d_box_paper) (dCons (eTup (dCons (eC (.int (2))) (dCons (eC (.int (3))) (dNil)))) (dCons (eC (.int (3))) (dNil)))) (eC (.int (0)))) (dCons (eFn (runF 4 d_box_row) (dCons (eTup (dCons (eC (.int (2))) (dCons (eC (.int (2))) (dNil)))) (dCons (eC (.int (3))) (dNil)))) (dCons (eFn (runF 6 d_judge_box) (dCons (eTup (dCons (eC (.int (2))) (dCons (eC (.int (2))) (dNil)))) (dCons (eC (.int (3))) (dCons (eTup (dCons (eC (.str "colours")) (dCons (eC (.int (0))) (dCons (eC (.int (1))) (dNil))))) (dNil))))) (dNil)))))) (sFz 8 (sRet (eBin oEq (eCall fRepr (dCons (eVar 8) (dNil))) (eCall fRepr (dCons (eLst (dCons (eC (.str "laying")) (dCons (eTup (dCons (eC (.int (1))) (dCons (eC (.int (2))) (dCons (eC (.int (1))) (dNil))))) (dCons (eC .none) (dNil))))) (dNil)))))))
theorem law_split : d_law = sSeq (sFor (iRan1 (dCons (eC (.int (4))) (dNil))) (.n 2) lapL) (sFz 4 (sFz 3 (sFz 5 (sFz 6 lastL)))) := rfl

theorem fz_cl {i : Nat} {m : SD} {env : En} {S : SS} (h : ∀ d, env[i]? ≠ some (.ow d)) : sFz i m env S = m env S := by
  unfold sFz fz
  split
  · rename_i d e; exact absurd e (h d)
  · rfl
theorem sPar_cc {i j : Nat} {ma mb : ED} {env : En} {S s s' : SS} {d e : PyData} {env' : En} (ha : ma env S = some (d, .cl, s)) (hb : mb env s = some (e, .cl, s')) (hi : i < env.length) (hj : j < env.length) (he : (env.set i (.cl d)).set j (.cl e) = env') : sPar i j ma mb env S = some (.nx env' s') := by
  subst he
  unfold sPar
  rw [ha, Option.bind_some, hb, Option.bind_some]
  simp [hi, hj]
theorem lap_ok {s2 s3 s4 s5 s6 s7 : Sl} (s : Src) : ∃ m box told a s' i, lapL [.un, .sr, s2, s3, s4, s5, s6, s7, .un, .un] (some s) = some (.nx [.un, .sr, s2, .cl (nD m), .cl (TN box), .cl (TN (rowOf m (cells box))), .cl told, .cl (.bool a), .un, i] (some s')) ∧ i = .un := by
  obtain ⟨m, sa, hm, h1, h2⟩ := v_law_of s
  unfold lapL
  rw [sSeq_nx (s := some sa) (sSet_cl (eFn_at (s := some s) (r := [(.none, .sr), (.list ([2, 2, 3, 3, 4, 5, 6, 7, 8, 9].map nD), .fr)]) rfl rfl hm) (by simp))]
  show ∃ m box told a s' i, sSeq _ _ [.un, .sr, s2, .cl (nD _), s4, s5, s6, s7, .un, .un] (some sa) = _ ∧ _
  obtain ⟨q, sb, hq, _⟩ := pickE (S := some sa) (s := sa) (env := [.un, .sr, s2, .cl (nD m), s4, s5, s6, s7, .un, .un]) (ms := dCons (eVar 1) (dCons (eC (.int (30))) (dNil))) (many := 30) rfl (by omega) (by omega)
  have hmost : ∃ most : Nat, 1 ≤ most ∧ most ≤ 1500 ∧ eIf (bT (eBin oEq (eFn fPick (dCons (eVar 1) (dCons (eC (.int (30))) (dNil)))) (eC (.int (0))))) (eC (.int (1500))) (eC (.int (90))) [.un, .sr, s2, .cl (nD m), s4, s5, s6, s7, .un, .un] (some sa) = some (nD most, .cl, some sb) := by
    by_cases h0 : q = 0
    · exact ⟨1500, by omega, by omega, (eIf_t (s := some sb) (bT_at (eBin_at (s := some sb) (s' := some sb) hq rfl rfl ((oEq_nat q 0 _ .cl).trans (by rw [h0]; rfl))))).trans rfl⟩
    · exact ⟨90, by omega, by omega, (eIf_f (s := some sb) (bT_at (eBin_at (s := some sb) (s' := some sb) hq rfl rfl ((oEq_nat q 0 _ .cl).trans (by rw [beq_eq_false_iff_ne.mpr h0]))))).trans rfl⟩
  obtain ⟨most, hm1, hm2, hmost⟩ := hmost
  obtain ⟨box, sc, hbox, hb, hd⟩ := v_law_box h1 h2 hm1 hm2 sb
  rw [sSeq_nx (s := some sc) (sSet_cl (eFn_at (s := some sb) (r := [(.none, .sr), (nD m, .cl), (nD most, .cl)]) (dCons_at (s := some sa) rfl (dCons_at (s := some sa) rfl (dCons_at (s := some sb) hmost rfl))) rfl hbox) (by simp))]
  show ∃ m box told a s' i, sSeq _ _ [.un, .sr, s2, .cl (nD _), .cl (TN _), s5, s6, s7, .un, .un] (some sc) = _ ∧ _
  obtain ⟨told, x, hp⟩ := paper_of h1 h2 hb hd
  have hC : (cells box).length ≤ 16777216 := by rw [cells_length]; exact Nat.le_trans hb.vol (by decide)
  rw [sSeq_nx (s := some sc) (sPar_cc (d := TN (rowOf m (cells box))) (e := told) (s := some sc) (s' := some sc) (eFn_at (s := some sc) (r := [(.list ((cells box).map TN), .cl), (nD m, .cl)]) (dCons_at (s := some sc) (eFn_at (s := some sc) (r := [(TN box, .cl)]) rfl rfl (v_law_cells hb hd _)) rfl) rfl (v_law_row (by omega) (by omega) hC _)) (eFn_at (s := some sc) (r := [(TN box, .cl), (nD m, .cl)]) rfl rfl (hp.paper _)) (by simp) (by simp) (env' := [.un, .sr, s2, .cl (nD m), .cl (TN box), .cl (TN (rowOf m (cells box))), .cl told, s7, .un, .un]) rfl)]
  rw [fz_cl (by intro d; simp), fz_cl (by intro d; simp)]
  have hsr := sm_row h2 hb
  have hr1 : eCall fRepr (dCons (eFn (runF 4 d_box_row) (dCons (eVar 4) (dCons (eVar 3) (dNil)))) (dNil)) [.un, .sr, s2, .cl (nD m), .cl (TN box), .cl (TN (rowOf m (cells box))), .cl told, s7, .un, .un] (some sc) = some (.str (TN (rowOf m (cells box))).shown, .cl, some sc) :=
    eCall_at (s := some sc) (r := [(TN (rowOf m (cells box)), .cl)]) (dCons_at (s := some sc) (eFn_at (s := some sc) (r := [(TN box, .cl), (nD m, .cl)]) rfl rfl (v_box_row hb hd (by omega) (by omega) _)) rfl) rfl (repr_at hsr .cl)
  have hr2 : eCall fRepr (dCons (eFn (runF 7 d_box_paper) (dCons (eVar 4) (dCons (eVar 3) (dNil)))) (dNil)) [.un, .sr, s2, .cl (nD m), .cl (TN box), .cl (TN (rowOf m (cells box))), .cl told, s7, .un, .un] (some sc) = some (.str told.shown, .cl, some sc) :=
    eCall_at (s := some sc) (r := [(told, .cl)]) (dCons_at (s := some sc) (eFn_at (s := some sc) (r := [(TN box, .cl), (nD m, .cl)]) rfl rfl (hp.paper _)) rfl) rfl (repr_at hp.sm .cl)
  rw [sSeq_nx (s := some sc) (e := [.un, .sr, s2, .cl (nD m), .cl (TN box), .cl (TN (rowOf m (cells box))), .cl told, s7, .un, .un]) ((sIf_f (s := some sc) ((bOr_f (s := some sc) (bT_at (eBin_at (s := some sc) (s' := some sc) hr1 (eCall_at (s := some sc) (r := [(TN (rowOf m (cells box)), .cl)]) rfl rfl (repr_at hsr .cl)) rfl (shown_eq_str (sok_TN _) _ _)))).trans (bT_at (eBin_at (s := some sc) (s' := some sc) hr2 (eCall_at (s := some sc) (r := [(told, .cl)]) rfl rfl (repr_at hp.sm .cl)) rfl (shown_eq_str hp.sok _ _))))).trans rfl)]
  rw [sSeq_nx (s := some sc) (e := [.un, .sr, s2, .cl (nD m), .cl (TN box), .cl (TN (rowOf m (cells box))), .cl told, s7, .un, .un]) ((sIf_f (s := some sc) ((bOr_f (s := some sc) (bT_at (eBin_at (s := some sc) (s' := some sc) (eFn_at (s := some sc) (r := [(TN box, .cl), (nD m, .cl), (told, .cl)]) rfl rfl (hp.fault _)) rfl rfl rfl))).trans (bT_at (eBin_at (s := some sc) (s' := some sc) (eFn_at (s := some sc) (r := [(TN box, .cl), (nD m, .cl), (told, .cl)]) rfl rfl (hp.judge _)) rfl rfl rfl)))).trans rfl)]
  rw [sSeq_nx (s := some sc) (sSet_cl (d := .bool (box.any (fun s => s % m == 0))) (eBin_at (s := some sc) (s' := some sc) (d := .list ((box.filter fun s => s % m == 0).map nD)) (t := .fr) (e := .list []) (u := .fr) (eLc_at (S' := some sc) (l := box) (f := nD) (e := nD) rfl rfl (fun y _ => ⟨[.un, .sr, s2, .cl (nD m), .cl (TN box), .cl (TN (rowOf m (cells box))), .cl told, s7, .un, .cl (nD y)], rfl, bT_at (eBin_at (s := some sc) (s' := some sc) (eBin_at (s := some sc) (s' := some sc) (d := nD y) (t := .cl) rfl rfl rfl (oMod_nat (by omega) .cl .cl)) rfl rfl (oEq_nat (y % m) 0 .cl .cl)), fun _ => ⟨.cl, rfl, rfl⟩⟩) (by omega)) rfl rfl ((oNe_ints _ _ _).trans (by rw [filter_any]))) (by simp))]
  refine ⟨m, box, told, box.any (fun s => s % m == 0), sc, .un, ?_, rfl⟩
  refine (sIf_f (s := some sc) ((bOr_f (s := some sc) (bT_at (eBin_at (s := some sc) (s' := some sc) (d := .bool (box.any (fun s => s % m == 0))) (t := .cl) (eBin_at (s := some sc) (s' := some sc) (eBin_at (s := some sc) (s' := some sc) rfl rfl rfl (hp.head _ _)) rfl rfl (hp.word _ _)) rfl rfl (oNe_bb _ _ _)))).trans (bT_at (eBin_at (s := some sc) (s' := some sc) (d := .bool (box.any (fun s => s % m == 0))) (t := .cl) (eBin_at (s := some sc) (s' := some sc) (d := nD (srtU ((rowOf m (cells box)).map Int.ofNat)).length) (t := .cl) ?_ rfl rfl ((oEq_nat _ 1 _ .cl).trans (by rw [srt_at h1 h2 hd]))) rfl rfl (oNe_bb _ _ _))))).trans rfl
  refine eCall_at (s := some sc) (r := [(.list ((srtU ((rowOf m (cells box)).map Int.ofNat)).map .int), .fr)]) (dCons_at (s := some sc) ?_ rfl) rfl (q := (nD (srtU ((rowOf m (cells box)).map Int.ofNat)).length, .cl)) ?_
  · show (if Tag.rd .cl && decide (((rowOf m (cells box)).map nD).length ≤ 60) then (intsOf ((rowOf m (cells box)).map nD)).map (fun ns => (PyData.list ((srtU ns).map .int), Tag.fr, some sc)) else none) = _
    rw [if_pos (by
      have : ((rowOf m (cells box)).map nD).length ≤ 60 := by unfold rowOf; simp; omega
      rw [decide_eq_true this]; rfl), intsOf_nD]
    rfl
  · show some (PyData.int (((srtU ((rowOf m (cells box)).map Int.ofNat)).map PyData.int).length : Nat), Tag.cl) = _
    rw [List.length_map]

theorem last_ok {s2 s3 s4 s5 s6 s7 : Sl} (s : Src) : lastL [.un, .sr, s2, s3, s4, s5, s6, s7, .un, .un] (some s) = some (.rt (.bool true) .cl (some s)) := by
  have hb : Bx [2, 3] := ⟨by decide, by decide⟩
  have hc : Bx [2, 2] := ⟨by decide, by decide⟩
  have hrow : rowOf 3 (cells [2, 2]) = [1, 2, 1] := by decide
  have h2 := v_box_row (m := 3) hc (by decide) (by decide) (by decide) (some s)
  rw [hrow] at h2
  have e1 := v_paper_lay (m := 3) (p := [2]) (s := 3) (r := []) hb (by decide) (by decide) (by decide) rfl (by decide) rfl (some s)
  have e3 := v_judge_col (m := 3) (d := 1) hc (by decide) (by decide) (by decide) (by decide) (by decide) (by decide) (some s)
  have hv : (eLst (dCons (eBin oIxA (eFn (runF 7 d_box_paper) (dCons (eTup (dCons (eC (.int (2))) (dCons (eC (.int (3))) (dNil)))) (dCons (eC (.int (3))) (dNil)))) (eC (.int (0)))) (dCons (eFn (runF 4 d_box_row) (dCons (eTup (dCons (eC (.int (2))) (dCons (eC (.int (2))) (dNil)))) (dCons (eC (.int (3))) (dNil)))) (dCons (eFn (runF 6 d_judge_box) (dCons (eTup (dCons (eC (.int (2))) (dCons (eC (.int (2))) (dNil)))) (dCons (eC (.int (3))) (dCons (eTup (dCons (eC (.str "colours")) (dCons (eC (.int (0))) (dCons (eC (.int (1))) (dNil))))) (dNil))))) (dNil))))) [.un, .sr, s2, s3, s4, s5, s6, s7, .un, .un] (some s) = some (.list [.str "laying", TN [1, 2, 1], .none], .fr, some s) := by
    unfold eLst
    rw [dCons_at (s := some s) (s' := some s) (eBin_at (s := some s) (s' := some s) (u := .cl) (e := .int 0) (eFn_at (s := some s) (r := [(TN [2, 3], .cl), (nD 3, .cl)]) rfl rfl e1) rfl rfl (f := .str "laying") (v := .cl) rfl) (dCons_at (s := some s) (s' := some s) (eFn_at (s := some s) (r := [(TN [2, 2], .cl), (nD 3, .cl)]) rfl rfl h2) (dCons_at (s := some s) (s' := some s) (eFn_at (s := some s) (r := [(TN [2, 2], .cl), (nD 3, .cl), (PC 1, .cl)]) rfl rfl e3) rfl))]
    rfl
  unfold lastL
  rw [sSeq_nx (s := some s) (sSet_fr hv (by simp))]
  have hr : ∀ t, fRepr [(.list [.str "laying", TN [1, 2, 1], .none], t)] = some (.str (PyData.list [.str "laying", TN [1, 2, 1], .none]).shown, .cl) := by
    intro t
    show (if SeqAt.shaped (.list [.str "laying", TN [1, 2, 1], .none]) && PyData.showable (.list [.str "laying", TN [1, 2, 1], .none]) && decide ((PyData.list [.str "laying", TN [1, 2, 1], .none]).shown.length ≤ 16777216) then some (PyData.str (PyData.list [.str "laying", TN [1, 2, 1], .none]).shown, Tag.cl) else none) = _
    rw [if_pos (by decide +kernel)]
  have hs : PyData.strOk (PyData.list [.str "laying", TN [1, 2, 1], .none]).shown = true := by decide +kernel
  refine sRet_cl (eBin_at (s := some s) (s' := some s) (eCall_at (s := some s) (r := [(.list [.str "laying", TN [1, 2, 1], .none], .cl)]) rfl rfl (hr _)) (eCall_at (s := some s) (r := [(.list [.str "laying", TN [1, 2, 1], .none], .fr)]) rfl rfl (hr _)) rfl ?_)
  unfold oEq
  have h1 : SeqAt.shaped (.str (PyData.list [.str "laying", TN [1, 2, 1], .none]).shown) = true := by unfold SeqAt.shaped; rw [PyData.canLay0, hs]; rfl
  rw [h1, if_pos (show (true && true) = true from rfl), PyData.eqv, beq_self_eq_true]

theorem gives (s : Src) : ∃ S', d_law (lawEnv N_law.length) (some s) = some (.rt (.bool true) .cl S') := by
  rw [law_split]
  obtain ⟨env', S', ⟨s2, s3, s4, s5, s6, s7, s', rfl, rfl, h3, h4, h5, h6⟩, H⟩ := sFor_goS (g := .n 2) (body := lapL) (rest := sFz 4 (sFz 3 (sFz 5 (sFz 6 lastL)))) (it := iRan1 (dCons (eC (.int (4))) (dNil))) (env := lawEnv N_law.length) (S := some s) (S1 := some s) (f := nD)
    (fun _ env S => ∃ s2 s3 s4 s5 s6 s7 s', env = [.un, .sr, s2, s3, s4, s5, s6, s7, .un, .un] ∧ S = some s' ∧ Cl s3 ∧ Cl s4 ∧ Cl s5 ∧ Cl s6) (List.range 4) rfl ⟨.un, .un, .un, .un, .un, .un, s, rfl, rfl, .inl rfl, .inl rfl, .inl rfl, .inl rfl⟩
    (by
      rintro p a r env S e ⟨s2, s3, s4, s5, s6, s7, s', rfl, rfl, _⟩
      obtain ⟨m, box, told, b, s'', i, h, rfl⟩ := lap_ok (s2 := .cl (nD a)) (s3 := s3) (s4 := s4) (s5 := s5) (s6 := s6) (s7 := s7) s'
      exact ⟨[.un, .sr, .cl (nD a), s3, s4, s5, s6, s7, .un, .un], rfl, _, _, h, _, _, _, _, _, _, s'', rfl, rfl, .inr ⟨_, rfl⟩, .inr ⟨_, rfl⟩, .inr ⟨_, rfl⟩, .inr ⟨_, rfl⟩⟩)
  have hcl : ∀ sl : Sl, Cl sl → ∀ d, (some sl : Option Sl) ≠ some (.ow d) := by
    rintro sl (rfl | ⟨x, rfl⟩) d e <;> cases e
  refine ⟨some s', H.trans ?_⟩
  rw [fz_cl (hcl s4 h4), fz_cl (hcl s3 h3), fz_cl (hcl s5 h5), fz_cl (hcl s6 h6)]
  exact last_ok s'
end G86

namespace G86
open PySem L2 Ev
section
variable {K : PySem.W.Frag} {mg : Str → Option Value} {h : Heap}
theorem tx_mk {nm : Str} {st : Stmt} {ps : List Str} {f : Addr} {oc kV dc pm cd ct : Value} {od an : Option Addr} {sl : Array (Option Value)} (X : K.In h) (G : h.Ns mainGlobals mg) (a : PySem.W.nsIn K mainGlobals nm = some (some (.ref f))) (l : K.lookup f = some ⟨oc, od, .func (PySem.W.fnOf nm nm (defArgs st) (defBody st) (defScope st) .none kV dc pm an cd ct), sl⟩) (c : PySem.W.codeIn K cd nm = true) (k : PySem.W.keepIn K (.ref f) = true)
    (b : ∀ fd, Fun K nm nm st f fd → Binds K fd ps []) : ∃ f fd, Fun K nm nm st f fd ∧ Binds K fd ps [] ∧ mg nm = some (.ref f) ∧ PySem.W.keepIn K (.ref f) = true :=
  ⟨f, _, fun_mk l c k, b _ (fun_mk l c k), PySem.W.mg_of X G a, k⟩
end
theorem end_law {l : PySem.W.OpenLaw} {w : World} {K : PySem.W.Frag} {h : Heap} {mg : Str → Option Value} {fa f : Addr} (X : K.In h) (G : h.Ns mainGlobals mg) (hfa : mg "law" = some (.ref fa)) {oc kV dc pm cd ct : Value} {od an : Option Addr} {sl : Array (Option Value)} (T : Tx K mg)
    (a : PySem.W.nsIn K mainGlobals "law" = some (some (.ref f))) (lk : K.lookup f = some ⟨oc, od, .func (PySem.W.fnOf "law" "law" (defArgs (topS 23)) (defBody (topS 23)) (defScope (topS 23)) .none kV dc pm an cd ct), sl⟩) (c : PySem.W.codeIn K cd "law" = true) (k : PySem.W.keepIn K (.ref f) = true) :
    ∃ fd : FuncData, (∀ (s : Shared) (v : Value), BindsTo s fd ⟨[v], []⟩ [("script", v)]) ∧ ∀ base : Heap, K.In base → base.Ns mainGlobals mg → FnG l.prog w K mg base 5 fa fd ["script"] (spLaw K) := by
  have e := hfa.symm.trans (PySem.W.mg_of X G a)
  cases e
  exact ⟨PySem.W.fnOf "law" "law" (defArgs (topS 23)) (defBody (topS 23)) (defScope (topS 23)) .none kV dc pm an cd ct, fun s v => .of_eq rfl, fun base _ _ => fn_law (fun_mk (st := topS 23) lk c k) T gives⟩
end G86
open PySem PySem.W PyProof.Rows
set_option maxHeartbeats 0 in
theorem PySem.Challenge.cw_torusfloors_k86_whole_boxes_holds : PySem.Challenge.rw_torusfloors_k86_whole_boxes.Holds := by
  w_on; o_law; k_head; (case hw => w_witness2)
  k_fill
  refine Ev.walk_law (l := PySem.Challenge.rw_torusfloors_k86_whole_boxes) (k := 5) rfl rfl ⟨rfl, by decide, by decide⟩ (fun w h Y => PySem.W.kIn_of Y) ?F
  case F =>
    intro w mg fa h KX G hmg
    have t_box_cells := G86.tx_mk (nm := "box_cells") (st := G86.topS 1) (ps := ["box"]) KX G (by k_is) (by k_is) (by k_is) (by k_is) (fun fd F => F.binds fun _ _ _ _ _ _ us hl => match us, hl with | [_], _ => rfl)
    have t_box_row := G86.tx_mk (nm := "box_row") (st := G86.topS 2) (ps := ["box", "m"]) KX G (by k_is) (by k_is) (by k_is) (by k_is) (fun fd F => F.binds fun _ _ _ _ _ _ us hl => match us, hl with | [_, _], _ => rfl)
    have t_box_paper := G86.tx_mk (nm := "box_paper") (st := G86.topS 3) (ps := ["box", "m"]) KX G (by k_is) (by k_is) (by k_is) (by k_is) (fun fd F => F.binds fun _ _ _ _ _ _ us hl => match us, hl with | [_, _], _ => rfl)
    have t_is_number := G86.tx_mk (nm := "is_number") (st := G86.topS 4) (ps := ["value"]) KX G (by k_is) (by k_is) (by k_is) (by k_is) (fun fd F => F.binds fun _ _ _ _ _ _ us hl => match us, hl with | [_], _ => rfl)
    have t_is_box_cell := G86.tx_mk (nm := "is_box_cell") (st := G86.topS 5) (ps := ["box", "value"]) KX G (by k_is) (by k_is) (by k_is) (by k_is) (fun fd F => F.binds fun _ _ _ _ _ _ us hl => match us, hl with | [_, _], _ => rfl)
    have t_is_box_bar := G86.tx_mk (nm := "is_box_bar") (st := G86.topS 6) (ps := ["box", "value"]) KX G (by k_is) (by k_is) (by k_is) (by k_is) (fun fd F => F.binds fun _ _ _ _ _ _ us hl => match us, hl with | [_, _], _ => rfl)
    have t_bar_cells := G86.tx_mk (nm := "bar_cells") (st := G86.topS 7) (ps := ["cell", "axis", "m"]) KX G (by k_is) (by k_is) (by k_is) (by k_is) (fun fd F => F.binds fun _ _ _ _ _ _ us hl => match us, hl with | [_, _, _], _ => rfl)
    have t_bars_fault := G86.tx_mk (nm := "bars_fault") (st := G86.topS 8) (ps := ["box", "m", "bars"]) KX G (by k_is) (by k_is) (by k_is) (by k_is) (fun fd F => F.binds fun _ _ _ _ _ _ us hl => match us, hl with | [_, _, _], _ => rfl)
    have t_judge_box := G86.tx_mk (nm := "judge_box") (st := G86.topS 9) (ps := ["box", "m", "value"]) KX G (by k_is) (by k_is) (by k_is) (by k_is) (fun fd F => F.binds fun _ _ _ _ _ _ us hl => match us, hl with | [_, _, _], _ => rfl)
    have t__law_source := G86.tx_mk (nm := "_law_source") (st := G86.topS 11) (ps := ["script"]) KX G (by k_is) (by k_is) (by k_is) (by k_is) (fun fd F => F.binds fun _ _ _ _ _ _ us hl => match us, hl with | [_], _ => rfl)
    have t__law_pick := G86.tx_mk (nm := "_law_pick") (st := G86.topS 12) (ps := ["source", "many"]) KX G (by k_is) (by k_is) (by k_is) (by k_is) (fun fd F => F.binds fun _ _ _ _ _ _ us hl => match us, hl with | [_, _], _ => rfl)
    have t__law_of := G86.tx_mk (nm := "_law_of") (st := G86.topS 13) (ps := ["source", "some"]) KX G (by k_is) (by k_is) (by k_is) (by k_is) (fun fd F => F.binds fun _ _ _ _ _ _ us hl => match us, hl with | [_, _], _ => rfl)
    have t__law_box := G86.tx_mk (nm := "_law_box") (st := G86.topS 14) (ps := ["source", "m", "most"]) KX G (by k_is) (by k_is) (by k_is) (by k_is) (fun fd F => F.binds fun _ _ _ _ _ _ us hl => match us, hl with | [_, _, _], _ => rfl)
    have t__law_row := G86.tx_mk (nm := "_law_row") (st := G86.topS 15) (ps := ["floor", "m"]) KX G (by k_is) (by k_is) (by k_is) (by k_is) (fun fd F => F.binds fun _ _ _ _ _ _ us hl => match us, hl with | [_, _], _ => rfl)
    have t__law_is_int := G86.tx_mk (nm := "_law_is_int") (st := G86.topS 16) (ps := ["value"]) KX G (by k_is) (by k_is) (by k_is) (by k_is) (fun fd F => F.binds fun _ _ _ _ _ _ us hl => match us, hl with | [_], _ => rfl)
    have t__law_is_cell := G86.tx_mk (nm := "_law_is_cell") (st := G86.topS 17) (ps := ["value", "size"]) KX G (by k_is) (by k_is) (by k_is) (by k_is) (fun fd F => F.binds fun _ _ _ _ _ _ us hl => match us, hl with | [_, _], _ => rfl)
    have t__law_box_cells := G86.tx_mk (nm := "_law_box_cells") (st := G86.topS 18) (ps := ["box"]) KX G (by k_is) (by k_is) (by k_is) (by k_is) (fun fd F => F.binds fun _ _ _ _ _ _ us hl => match us, hl with | [_], _ => rfl)
    have t__law_box_bar := G86.tx_mk (nm := "_law_box_bar") (st := G86.topS 19) (ps := ["bar", "m"]) KX G (by k_is) (by k_is) (by k_is) (by k_is) (fun fd F => F.binds fun _ _ _ _ _ _ us hl => match us, hl with | [_, _], _ => rfl)
    have t__law_bars_fault := G86.tx_mk (nm := "_law_bars_fault") (st := G86.topS 20) (ps := ["box", "m", "bars"]) KX G (by k_is) (by k_is) (by k_is) (by k_is) (fun fd F => F.binds fun _ _ _ _ _ _ us hl => match us, hl with | [_, _, _], _ => rfl)
    have t__law_is_box_bar := G86.tx_mk (nm := "_law_is_box_bar") (st := G86.topS 21) (ps := ["box", "value"]) KX G (by k_is) (by k_is) (by k_is) (by k_is) (fun fd F => F.binds fun _ _ _ _ _ _ us hl => match us, hl with | [_, _], _ => rfl)
    have t__law_box_fault := G86.tx_mk (nm := "_law_box_fault") (st := G86.topS 22) (ps := ["box", "m", "value"]) KX G (by k_is) (by k_is) (by k_is) (by k_is) (fun fd F => F.binds fun _ _ _ _ _ _ us hl => match us, hl with | [_, _, _], _ => rfl)
    have z_abs := PySem.W.mg_none_of KX G (n := "abs") (by k_is)
    have z_all := PySem.W.mg_none_of KX G (n := "all") (by k_is)
    have z_bool := PySem.W.mg_none_of KX G (n := "bool") (by k_is)
    have z_dict := PySem.W.mg_none_of KX G (n := "dict") (by k_is)
    have z_enumerate := PySem.W.mg_none_of KX G (n := "enumerate") (by k_is)
    have z_int := PySem.W.mg_none_of KX G (n := "int") (by k_is)
    have z_isinstance := PySem.W.mg_none_of KX G (n := "isinstance") (by k_is)
    have z_len := PySem.W.mg_none_of KX G (n := "len") (by k_is)
    have z_max := PySem.W.mg_none_of KX G (n := "max") (by k_is)
    have z_min := PySem.W.mg_none_of KX G (n := "min") (by k_is)
    have z_range := PySem.W.mg_none_of KX G (n := "range") (by k_is)
    have z_repr := PySem.W.mg_none_of KX G (n := "repr") (by k_is)
    have z_set := PySem.W.mg_none_of KX G (n := "set") (by k_is)
    have z_sorted := PySem.W.mg_none_of KX G (n := "sorted") (by k_is)
    have z_str := PySem.W.mg_none_of KX G (n := "str") (by k_is)
    have z_sum := PySem.W.mg_none_of KX G (n := "sum") (by k_is)
    have z_tuple := PySem.W.mg_none_of KX G (n := "tuple") (by k_is)
    have z_zip := PySem.W.mg_none_of KX G (n := "zip") (by k_is)
    exact G86.end_law KX G hmg ⟨t_box_cells, t_box_row, t_box_paper, t_is_number, t_is_box_cell, t_is_box_bar, t_bar_cells, t_bars_fault, t_judge_box, t__law_source, t__law_pick, t__law_of, t__law_box, t__law_row, t__law_is_int, t__law_is_cell, t__law_box_cells, t__law_box_bar, t__law_bars_fault, t__law_is_box_bar, t__law_box_fault, z_abs, z_all, z_bool, z_dict, z_enumerate, z_int, z_isinstance, z_len, z_max, z_min, z_range, z_repr, z_set, z_sorted, z_str, z_sum, z_tuple, z_zip⟩ (by k_is) (by k_is) (by k_is) (by k_is)

